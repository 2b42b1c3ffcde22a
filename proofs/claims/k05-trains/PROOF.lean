import PyProof.Rows.All
import Wide.All
import OpenK.AllK
import Wide.FinOn
import HandS.ForMost
import HandS.ForExc
import HandS.Wide
import HandS.Zip
import HandS.More
import HandS.Flow
import HandS.IsInst
import HandS.Style
import HandS.HeadHook2
import HandS.HeadEnd
import HandS.Head0
import HandS.Head1
import HandS.Head2
import HandS.Defaults
import PySem.Challenge.RW_coastersafe_k05_trains
set_option Elab.async false
set_option linter.all false
set_option maxRecDepth 100000
set_option maxHeartbeats 0
/-! Core, part 1: plain data, what represents it in the heap, the frame's slots. -/
namespace Cr
open PySem PySem.Spec PyProof.Rows L2
/-- plain data -/
inductive D where
  | non
  | bl (b : Bool)
  | int (i : Int)
  | str (x : Str)
  | tup (xs : List D)
  | lst (xs : List D)
  | obj (c : Nat) (xs : List D)
  | scr (ns : List Int)
/-- the classes: where they stand, their fields in the order of __init__ -/
structure CT where
  addr : Nat → Addr
/-- the program's classes by number: their fields in the order of __init__ -/
def flds : Nat → List Str
  | 20 => ["segments", "metres", "begins", "brakes", "heights"]
  | 21 => ["length", "friction", "brake", "lift", "drive"]
  | 22 => ["ways", "over", "trains"]
  | 23 => ["inputs", "bits", "timers", "order", "statements", "limits", "starts", "slots"]
  | _ => []
/-- the one field of an error with an __init__ -/
def low : Nat → Str
  | 5 => "line"
  | 7 => "name"
  | 8 => "limit"
  | _ => ""
structure Gx where
  K : PySem.W.Frag
  T : CT
def KTup (K : PySem.W.Frag) (a : Addr) (xs : List V) : Prop :=
  ∃ (o : Obj) (its : Array Value) (n : Nat), K.lookup a = some o ∧ o.cls = .type "tuple" ∧ o.data = .seq its n ∧ its.size ≤ sizeLine ∧ Vals xs its.toList
def KLst (K : PySem.W.Frag) (a : Addr) (xs : List V) : Prop :=
  ∃ (o : Obj) (its : Array Value) (n : Nat), K.lookup a = some o ∧ o.cls = .type "list" ∧ o.dict = none ∧ o.data = .seq its n ∧ its.size ≤ sizeLine ∧ Vals xs its.toList
mutual
/-- v stands for the data d, nothing of it lies at a place of Av -/
def Rep (G : Gx) (H : Hp) (Av : Addr → Prop) : D → V → Prop
  | .non, v => v = .non
  | .bl b, v => v = .bl b
  | .int i, v => v = .int i
  | .str x, v => v = .str x
  | .tup ds, v => ∃ a vs, v = .ref a ∧ ((H a = some (.tup vs) ∧ ¬ Av a) ∨ KTup G.K a vs) ∧ RepL G H Av ds vs
  | .lst ds, v => ∃ a vs, v = .ref a ∧ (H a = some (.lst vs) ∧ ¬ Av a) ∧ RepL G H Av ds vs
  | .obj c ds, v => ∃ a dx vs, v = .ref a ∧ (H a = some (.ins (G.T.addr c) dx ((flds c).zip vs)) ∧ ¬ Av a) ∧ vs.length = (flds c).length ∧ RepL G H Av ds vs
  | .scr ns, v => ∃ a, v = .ref a ∧ ((Rd H a (.lst (ns.map V.int)) ∧ ¬ Av a) ∨ KLst G.K a (ns.map V.int))
def RepL (G : Gx) (H : Hp) (Av : Addr → Prop) : List D → List V → Prop
  | [], vs => vs = []
  | d :: ds, vs => ∃ v vr, vs = v :: vr ∧ Rep G H Av d v ∧ RepL G H Av ds vr
end
structure Kept (H H' : Hp) (Av Av' : Addr → Prop) : Prop where
  keep : ∀ a o, H a = some o → ¬ Av a → H' a = some o
  av : ∀ a, Av' a → Av a ∨ H a = none
theorem Kept.no {H H' : Hp} {Av Av' : Addr → Prop} (k : Kept H H' Av Av') {a : Addr} {o : HO} (h : H a = some o) (n : ¬ Av a) : ¬ Av' a := fun z => by
  rcases k.av a z with q | q
  · exact n q
  · rw [h] at q; cases q
theorem Kept.trans {H H1 H2 : Hp} {A A1 A2 : Addr → Prop} (k : Kept H H1 A A1) (k2 : Kept H1 H2 A1 A2) : Kept H H2 A A2 := by
  refine ⟨fun a o h n => k2.keep a o (k.keep a o h n) (k.no h n), fun a z => ?_⟩
  rcases k2.av a z with q | q
  · exact k.av a q
  · by_cases hA : A a
    · exact .inl hA
    · cases e : H a with
      | none => exact .inr rfl
      | some o => rw [k.keep a o e hA] at q; cases q
mutual
theorem Rep.mono {G : Gx} {H H' : Hp} {Av Av' : Addr → Prop} (k : Kept H H' Av Av') : ∀ (d : D) {v : V}, Rep G H Av d v → Rep G H' Av' d v
  | .non, v, h => h
  | .bl b, v, h => h
  | .int i, v, h => h
  | .str x, v, h => h
  | .tup ds, v, h => by
    obtain ⟨a, vs, e, h1, h2⟩ := h
    refine ⟨a, vs, e, ?_, RepL.mono k ds h2⟩
    rcases h1 with ⟨h1, n⟩ | h1
    · exact .inl ⟨k.keep _ _ h1 n, k.no h1 n⟩
    · exact .inr h1
  | .lst ds, v, h => by
    obtain ⟨a, vs, e, ⟨h1, n⟩, h2⟩ := h
    exact ⟨a, vs, e, ⟨k.keep _ _ h1 n, k.no h1 n⟩, RepL.mono k ds h2⟩
  | .obj c ds, v, h => by
    obtain ⟨a, dx, vs, e, ⟨h1, n⟩, hl, h2⟩ := h
    exact ⟨a, dx, vs, e, ⟨k.keep _ _ h1 n, k.no h1 n⟩, hl, RepL.mono k ds h2⟩
  | .scr ns, v, h => by
    obtain ⟨a, e, h1⟩ := h
    refine ⟨a, e, ?_⟩
    rcases h1 with ⟨h1 | ⟨o, h1⟩, n⟩ | h1
    · exact .inl ⟨.inl (k.keep _ _ h1 n), k.no h1 n⟩
    · exact .inl ⟨.inr ⟨o, k.keep _ _ h1 n⟩, k.no h1 n⟩
    · exact .inr h1
theorem RepL.mono {G : Gx} {H H' : Hp} {Av Av' : Addr → Prop} (k : Kept H H' Av Av') : ∀ (ds : List D) {vs : List V}, RepL G H Av ds vs → RepL G H' Av' ds vs
  | [], vs, h => h
  | d :: ds, vs, h => by
    obtain ⟨v, vr, e, h1, h2⟩ := h
    exact ⟨v, vr, e, Rep.mono k d h1, RepL.mono k ds h2⟩
end
section
variable {G : Gx} {H H' : Hp} {Av Av' : Addr → Prop}
theorem RepL.length : ∀ {ds : List D} {vs : List V}, RepL G H Av ds vs → vs.length = ds.length
  | [], _, h => by
    have e : _ = [] := h
    rw [e]; rfl
  | d :: ds, _, h => by
    obtain ⟨v, vr, e, _, h2⟩ := h
    rw [e, List.length_cons, List.length_cons, RepL.length h2]
theorem RepL.nil_iff {vs : List V} : RepL G H Av [] vs ↔ vs = [] := Iff.rfl
theorem RepL.cons {d : D} {ds : List D} {v : V} {vs : List V} (h1 : Rep G H Av d v) (h2 : RepL G H Av ds vs) : RepL G H Av (d :: ds) (v :: vs) := ⟨v, vs, rfl, h1, h2⟩
theorem RepL.get : ∀ {ds : List D} {vs : List V} {i : Nat} {d : D}, RepL G H Av ds vs → ds[i]? = some d → ∃ v, vs[i]? = some v ∧ Rep G H Av d v
  | [], _, _, _, _, e => by simp at e
  | d :: ds, _, 0, _, h, e => by
    obtain ⟨v, vr, rfl, h1, _⟩ := h
    simp at e
    subst e
    exact ⟨v, rfl, h1⟩
  | d :: ds, _, i + 1, _, h, e => by
    obtain ⟨v, vr, rfl, _, h2⟩ := h
    obtain ⟨w, e1, e2⟩ := RepL.get (i := i) h2 (by simpa using e)
    exact ⟨w, by simpa using e1, e2⟩
theorem RepL.getV : ∀ {ds : List D} {vs : List V} {i : Nat} {v : V}, RepL G H Av ds vs → vs[i]? = some v → ∃ d, ds[i]? = some d ∧ Rep G H Av d v := fun {ds vs i v} h e => by
  have hl := h.length
  have hi : i < ds.length := by rw [← hl]; exact (List.getElem?_eq_some_iff.mp e).1
  obtain ⟨w, e1, e2⟩ := h.get (List.getElem?_eq_getElem hi)
  rw [e] at e1; cases e1
  exact ⟨_, List.getElem?_eq_getElem hi, e2⟩
theorem RepL.append : ∀ {ds es : List D} {vs ws : List V}, RepL G H Av ds vs → RepL G H Av es ws → RepL G H Av (ds ++ es) (vs ++ ws)
  | [], _, _, _, h, h' => by
    have e : _ = [] := h
    subst e; exact h'
  | d :: ds, _, _, _, h, h' => by
    obtain ⟨v, vr, rfl, h1, h2⟩ := h
    exact ⟨v, vr ++ _, rfl, h1, RepL.append h2 h'⟩
theorem RepL.take : ∀ {ds : List D} {vs : List V} (n : Nat), RepL G H Av ds vs → RepL G H Av (ds.take n) (vs.take n)
  | _, _, 0, _ => by simp; rfl
  | [], _, n + 1, h => by
    have e : _ = [] := h
    subst e; rfl
  | d :: ds, _, n + 1, h => by
    obtain ⟨v, vr, rfl, h1, h2⟩ := h
    exact ⟨v, vr.take n, rfl, h1, RepL.take n h2⟩
theorem RepL.drop : ∀ {ds : List D} {vs : List V} (n : Nat), RepL G H Av ds vs → RepL G H Av (ds.drop n) (vs.drop n)
  | _, _, 0, h => h
  | [], _, n + 1, h => by
    have e : _ = [] := h
    subst e; rfl
  | d :: ds, _, n + 1, h => by
    obtain ⟨v, vr, rfl, _, h2⟩ := h
    exact RepL.drop n h2
theorem RepL.set : ∀ {ds : List D} {vs : List V} (i : Nat) {d : D} {v : V}, RepL G H Av ds vs → Rep G H Av d v → RepL G H Av (ds.set i d) (vs.set i v)
  | [], _, _, _, _, h, _ => by
    have e : _ = [] := h
    subst e; rfl
  | d :: ds, _, 0, _, _, h, r => by
    obtain ⟨v, vr, rfl, _, h2⟩ := h
    exact ⟨_, vr, rfl, r, h2⟩
  | d :: ds, _, i + 1, _, _, h, r => by
    obtain ⟨v, vr, rfl, h1, h2⟩ := h
    exact ⟨v, _, rfl, h1, RepL.set i h2 r⟩
theorem RepL.rep {ds : List D} {vs : List V} (h : RepL G H Av ds vs) : ∀ k : Nat, RepL G H Av (List.replicate k ds).flatten (List.replicate k vs).flatten
  | 0 => rfl
  | k + 1 => by
    rw [List.replicate_succ, List.replicate_succ, List.flatten_cons, List.flatten_cons]
    exact h.append (RepL.rep h k)
theorem RepL.reverse : ∀ {ds : List D} {vs : List V}, RepL G H Av ds vs → RepL G H Av ds.reverse vs.reverse
  | [], _, h => by
    have e : _ = [] := h
    subst e; rfl
  | d :: ds, _, h => by
    obtain ⟨v, vr, rfl, h1, h2⟩ := h
    rw [List.reverse_cons, List.reverse_cons]
    exact (RepL.reverse h2).append ⟨v, [], rfl, h1, rfl⟩
/-! ### slots -/
inductive Fd where
  | d (x : D)
  | ol (xs : List D)
inductive Sl where
  | no
  | v (f : Fd)
  | oo (c : Nat) (fs : List (Str × Fd))
abbrev Env := List Sl
def RepFd (G : Gx) (H : Hp) (Av : Addr → Prop) : Fd → V → List Addr → Prop
  | .d x, v, fp => fp = [] ∧ Rep G H Av x v
  | .ol xs, v, fp => ∃ a vs, v = .ref a ∧ fp = [a] ∧ H a = some (.lst vs) ∧ RepL G H Av xs vs
def RepFs (G : Gx) (H : Hp) (Av : Addr → Prop) : List (Str × Fd) → List (Str × V) → List Addr → Prop
  | [], vs, fp => vs = [] ∧ fp = []
  | (n, f) :: fs, vs, fp => ∃ v vr p q, vs = (n, v) :: vr ∧ fp = p ++ q ∧ RepFd G H Av f v p ∧ RepFs G H Av fs vr q
def RepSl (G : Gx) (H : Hp) (Av : Addr → Prop) : Sl → Option V → List Addr → Prop
  | .no, _, fp => fp = []
  | .v f, o, fp => ∃ v, o = some v ∧ RepFd G H Av f v fp
  | .oo c fs, o, fp => ∃ a dx vs p, o = some (.ref a) ∧ fp = a :: p ∧ H a = some (.ins (G.T.addr c) dx vs) ∧ RepFs G H Av fs vs p
def RepEnv (G : Gx) (H : Hp) (Av : Addr → Prop) : Env → List (Option V) → List Addr → Prop
  | [], σ, F => σ = [] ∧ F = []
  | s :: ρ, σ, F => ∃ o σr p q, σ = o :: σr ∧ F = p ++ q ∧ RepSl G H Av s o p ∧ RepEnv G H Av ρ σr q
/-- Kept, and the owned ones too -/
theorem RepFd.mono (k : Kept H H' Av Av') {f : Fd} {v : V} {fp : List Addr} (hf : ∀ a ∈ fp, H' a = H a) (h : RepFd G H Av f v fp) : RepFd G H' Av' f v fp := by
  cases f with
  | d x => exact ⟨h.1, Rep.mono k x h.2⟩
  | ol xs =>
    obtain ⟨a, vs, e, e2, h1, h2⟩ := h
    refine ⟨a, vs, e, e2, ?_, RepL.mono k xs h2⟩
    rw [hf a (by rw [e2]; exact List.mem_singleton.mpr rfl)]
    exact h1
theorem RepFs.mono (k : Kept H H' Av Av') : ∀ {fs : List (Str × Fd)} {vs : List (Str × V)} {fp : List Addr}, (∀ a ∈ fp, H' a = H a) → RepFs G H Av fs vs fp → RepFs G H' Av' fs vs fp
  | [], _, _, _, h => h
  | (n, f) :: fs, _, _, hf, h => by
    obtain ⟨v, vr, p, q, e1, e2, h1, h2⟩ := h
    exact ⟨v, vr, p, q, e1, e2, h1.mono k fun a ha => hf a (by rw [e2]; exact List.mem_append_left _ ha), RepFs.mono k (fun a ha => hf a (by rw [e2]; exact List.mem_append_right _ ha)) h2⟩
theorem RepSl.mono (k : Kept H H' Av Av') {s : Sl} {o : Option V} {fp : List Addr} (hf : ∀ a ∈ fp, H' a = H a) (h : RepSl G H Av s o fp) : RepSl G H' Av' s o fp := by
  cases s with
  | no => exact h
  | v f => obtain ⟨v, e, h⟩ := h; exact ⟨v, e, h.mono k hf⟩
  | oo c fs =>
    obtain ⟨a, dx, vs, p, e1, e2, h1, h2⟩ := h
    refine ⟨a, dx, vs, p, e1, e2, ?_, h2.mono k fun b hb => hf b (by rw [e2]; exact List.mem_cons_of_mem _ hb)⟩
    rw [hf a (by rw [e2]; exact List.mem_cons_self)]
    exact h1
theorem RepEnv.mono (k : Kept H H' Av Av') : ∀ {ρ : Env} {σ : List (Option V)} {F : List Addr}, (∀ a ∈ F, H' a = H a) → RepEnv G H Av ρ σ F → RepEnv G H' Av' ρ σ F
  | [], _, _, _, h => h
  | s :: ρ, _, _, hf, h => by
    obtain ⟨o, σr, p, q, e1, e2, h1, h2⟩ := h
    exact ⟨o, σr, p, q, e1, e2, h1.mono k fun a ha => hf a (by rw [e2]; exact List.mem_append_left _ ha), RepEnv.mono k (fun a ha => hf a (by rw [e2]; exact List.mem_append_right _ ha)) h2⟩
theorem RepEnv.length : ∀ {ρ : Env} {σ : List (Option V)} {F : List Addr}, RepEnv G H Av ρ σ F → σ.length = ρ.length
  | [], _, _, h => by rw [h.1]; rfl
  | s :: ρ, _, _, h => by
    obtain ⟨o, σr, p, q, e1, e2, h1, h2⟩ := h
    rw [e1, List.length_cons, List.length_cons, RepEnv.length h2]
/-- every owned place is tracked -/
theorem RepFd.dom {f : Fd} {v : V} {fp : List Addr} (h : RepFd G H Av f v fp) : ∀ a ∈ fp, H a ≠ none := fun a ha => by
  cases f with
  | d x => rw [h.1] at ha; cases ha
  | ol xs =>
    obtain ⟨b, vs, _, e2, h1, _⟩ := h
    rw [e2] at ha
    rw [List.mem_singleton.mp ha, h1]
    exact fun z => by cases z
theorem RepFs.dom : ∀ {fs : List (Str × Fd)} {vs : List (Str × V)} {fp : List Addr}, RepFs G H Av fs vs fp → ∀ a ∈ fp, H a ≠ none
  | [], _, _, h, a, ha => by rw [h.2] at ha; cases ha
  | (n, f) :: fs, _, _, h, a, ha => by
    obtain ⟨v, vr, p, q, e1, e2, h1, h2⟩ := h
    rw [e2] at ha
    rcases List.mem_append.mp ha with z | z
    · exact h1.dom a z
    · exact RepFs.dom h2 a z
theorem RepSl.dom {s : Sl} {o : Option V} {fp : List Addr} (h : RepSl G H Av s o fp) : ∀ a ∈ fp, H a ≠ none := fun a ha => by
  cases s with
  | no => rw [show fp = [] from h] at ha; cases ha
  | v f => obtain ⟨v, e, h⟩ := h; exact h.dom a ha
  | oo c fs =>
    obtain ⟨b, dx, vs, p, e1, e2, h1, h2⟩ := h
    rw [e2] at ha
    rcases List.mem_cons.mp ha with z | z
    · rw [z, h1]; exact fun z => by cases z
    · exact h2.dom a z
theorem RepEnv.dom : ∀ {ρ : Env} {σ : List (Option V)} {F : List Addr}, RepEnv G H Av ρ σ F → ∀ a ∈ F, H a ≠ none
  | [], _, _, h, a, ha => by rw [h.2] at ha; cases ha
  | s :: ρ, _, _, h, a, ha => by
    obtain ⟨o, σr, p, q, e1, e2, h1, h2⟩ := h
    rw [e2] at ha
    rcases List.mem_append.mp ha with z | z
    · exact h1.dom a z
    · exact RepEnv.dom h2 a z
/-- one slot brought out -/
theorem RepEnv.focus : ∀ {ρ : Env} {σ : List (Option V)} {F : List Addr} {i : Nat} {s : Sl}, RepEnv G H Av ρ σ F → ρ[i]? = some s →
    ∃ o p1 p p2, σ[i]? = some o ∧ F = p1 ++ p ++ p2 ∧ RepSl G H Av s o p ∧
      ∀ {H' : Hp} {Av' : Addr → Prop} {s' : Sl} {o' : Option V} {p' : List Addr}, Kept H H' Av Av' → (∀ a ∈ p1, H' a = H a) → (∀ a ∈ p2, H' a = H a) → RepSl G H' Av' s' o' p' → RepEnv G H' Av' (ρ.set i s') (σ.set i o') (p1 ++ p' ++ p2)
  | [], _, _, _, _, _, e => by simp at e
  | t :: ρ, _, _, 0, s, h, e => by
    obtain ⟨o, σr, p, q, rfl, rfl, h1, h2⟩ := h
    simp at e
    subst e
    refine ⟨o, [], p, q, rfl, by simp, h1, fun {H' Av' s' o' p'} k k1 k2 r => ?_⟩
    exact ⟨o', σr, p', q, rfl, by simp, r, h2.mono k k2⟩
  | t :: ρ, _, _, i + 1, s, h, e => by
    obtain ⟨o, σr, p, q, rfl, rfl, h1, h2⟩ := h
    obtain ⟨o2, p1, pp, p2, e1, e2, r, f⟩ := RepEnv.focus (i := i) h2 (by simpa using e)
    refine ⟨o2, p ++ p1, pp, p2, by simpa using e1, by rw [e2]; simp [List.append_assoc], r, fun {H' Av' s' o' p'} k k1 k2 r' => ?_⟩
    exact ⟨o, σr.set i o', p, p1 ++ p' ++ p2, rfl, by simp [List.append_assoc], h1.mono k fun a ha => k1 a (List.mem_append_left _ ha), f k (fun a ha => k1 a (List.mem_append_right _ ha)) k2 r'⟩
end
/-- what the frame may not touch; where its self stands, if it makes one -/
structure Gh where
  fb : Addr → Prop
  me : Option Addr := none
/-- what the frame may not touch, and its own: av -/
def avo (Fb : Gh) (F : List Addr) : Addr → Prop := fun a => a ∈ F ∨ Fb.fb a
structure StR (G : Gx) (Fb : Gh) (H : Hp) (σ : L2.St) (ρ : Env) (F : List Addr) : Prop where
  ex : ∃ F0, RepEnv G H (avo Fb F) ρ σ F0 ∧ F0.Nodup ∧ ∀ a ∈ F0, a ∈ F
  dom : ∀ a ∈ F, H a ≠ none
  fb : ∀ a, Fb.fb a → H a ≠ none ∧ a ∉ F
  sf : ∀ a, Fb.me = some a → σ[0]? = some (some (.ref a)) ∧ ∃ c fs, ρ[0]? = some (.oo c fs)
theorem StR.av {G : Gx} {Fb : Gh} {H : Hp} {σ : L2.St} {ρ : Env} {F : List Addr} (S : StR G Fb H σ ρ F) : ∀ a, avo Fb F a → H a ≠ none := fun a h => by
  rcases h with h | h
  · exact S.dom a h
  · exact (S.fb a h).1
theorem StR.length {G : Gx} {Fb : Gh} {H : Hp} {σ : L2.St} {ρ : Env} {F : List Addr} (S : StR G Fb H σ ρ F) : σ.length = ρ.length := by
  obtain ⟨F0, e, _⟩ := S.ex
  exact e.length
theorem Kept.same {H H' : Hp} {Av : Addr → Prop} (s : Same H H') : Kept H H' Av Av := ⟨fun a o h _ => s a o h, fun _ h => .inl h⟩
theorem Rep.same {G : Gx} {H H' : Hp} {Av : Addr → Prop} {d : D} {v : V} (h : Rep G H Av d v) (s : Same H H') : Rep G H' Av d v := Rep.mono (Kept.same s) d h
theorem RepL.same {G : Gx} {H H' : Hp} {Av : Addr → Prop} {d : List D} {v : List V} (h : RepL G H Av d v) (s : Same H H') : RepL G H' Av d v := RepL.mono (Kept.same s) d h
theorem same_upd {H : Hp} {p : Addr} {o : HO} (h : H p = none) : Same H (upd H p o) := fun b u e => by rw [upd_ne (ne_of_none e h)]; exact e
theorem same_at {H H' : Hp} (s : Same H H') {a : Addr} (h : H a ≠ none) : H' a = H a := by
  cases e : H a with
  | none => exact absurd e h
  | some o => exact s a o e
theorem StR.same {G : Gx} {Fb : Gh} {H H' : Hp} {σ : L2.St} {ρ : Env} {F : List Addr} (S : StR G Fb H σ ρ F) (s : Same H H') : StR G Fb H' σ ρ F := by
  obtain ⟨F0, e, nd, sub⟩ := S.ex
  exact ⟨⟨F0, e.mono (Kept.same s) (fun a ha => same_at s (e.dom a ha)), nd, sub⟩, fun a h => by rw [same_at s (S.dom a h)]; exact S.dom a h, fun a ha => ⟨by rw [same_at s (S.fb a ha).1]; exact (S.fb a ha).1, (S.fb a ha).2⟩, S.sf⟩
/-- one slot: read -/
theorem StR.slot {G : Gx} {Fb : Gh} {H : Hp} {σ : L2.St} {ρ : Env} {F : List Addr} (S : StR G Fb H σ ρ F) {i : Nat} {s : Sl} (e : ρ[i]? = some s) : ∃ o p, σ[i]? = some o ∧ RepSl G H (avo Fb F) s o p ∧ ∀ a ∈ p, a ∈ F := by
  obtain ⟨F0, r, nd, sub⟩ := S.ex
  obtain ⟨o, p1, p, p2, e1, e2, r1, _⟩ := r.focus e
  exact ⟨o, p, e1, r1, fun a h => sub a (by rw [e2]; exact List.mem_append_left _ (List.mem_append_right _ h))⟩
/-- what a statement leaves -/
structure Post (H : Hp) (F : List Addr) (H' : Hp) (F' : List Addr) : Prop where
  keep : ∀ a o, H a = some o → a ∉ F → H' a = some o
  own : ∀ a ∈ F', a ∈ F ∨ H a = none
theorem Post.refl {H : Hp} {F : List Addr} : Post H F H F := ⟨fun _ _ h _ => h, fun _ h => .inl h⟩
theorem Post.of_same {H H' : Hp} {F : List Addr} (s : Same H H') : Post H F H' F := ⟨fun a o h _ => s a o h, fun _ h => .inl h⟩
theorem Post.trans {H H1 H2 : Hp} {F F1 F2 : List Addr} (p : Post H F H1 F1) (q : Post H1 F1 H2 F2) : Post H F H2 F2 := by
  have no : ∀ a o, H a = some o → a ∉ F → a ∉ F1 := fun a o h n z => by
    rcases p.own a z with r | r
    · exact n r
    · rw [h] at r; cases r
  refine ⟨fun a o h n => q.keep a o (p.keep a o h n) (no a o h n), fun a z => ?_⟩
  rcases q.own a z with r | r
  · exact p.own a r
  · by_cases hA : a ∈ F
    · exact .inl hA
    · cases e : H a with
      | none => exact .inr rfl
      | some o => rw [p.keep a o e hA] at r; cases r
/-- a statement that writes no fb -/
theorem Post.kept {Fb : Gh} {H H' : Hp} {F F' : List Addr} (p : Post H F H' F') : Kept H H' (avo Fb F) (avo Fb F') := by
  refine ⟨fun a o h n => p.keep a o h fun z => n (.inl z), fun a z => ?_⟩
  rcases z with z | z
  · rcases p.own a z with r | r
    · exact .inl (.inl r)
    · exact .inr r
  · exact .inl (.inr z)
end Cr
/-! Core, part 2: outcomes, the judgements, expressions. -/
namespace Cr
open PySem PySem.Spec PyProof.Rows L2
inductive Exc where
  | own (c : Nat)
  | low (c : Nat) (d : D)
inductive Res (α : Type) where
  | ok (a : α)
  | err (x : Exc)
  | bad
def Res.bind {α β : Type} (r : Res α) (f : α → Res β) : Res β := match r with
  | .ok a => f a
  | .err x => .err x
  | .bad => .bad
instance : Monad Res where
  pure := .ok
  bind := Res.bind
theorem bind_ok {α β : Type} (a : α) (f : α → Res β) : ((Res.ok a : Res α) >>= f) = f a := rfl
theorem bind_err {α β : Type} (x : Exc) (f : α → Res β) : ((Res.err x : Res α) >>= f) = .err x := rfl
theorem bind_bad {α β : Type} (f : α → Res β) : ((Res.bad : Res α) >>= f) = .bad := rfl
theorem pure_ok {α : Type} (a : α) : (pure a : Res α) = .ok a := rfl
abbrev gx (X : Cx) (T : CT) : Gx := ⟨X.K, T⟩
def ExcRep (G : Gx) (H : Hp) : Exc → Value → Option Addr → Prop
  | .own c, cls, d => cls = .ref (G.T.addr c) ∧ d = none
  | .low c x, cls, d => cls = .ref (G.T.addr c) ∧ ∃ a v, d = some a ∧ H a = some (.xd [(low c, v)]) ∧ ∀ Av, Rep G H Av x v
/-! ### readings by what they mean -/
section
variable (X : Cx)
def TWe (e : Expr) : TE := fun σ H Q => ∀ (pins : List (Addr × Obj)) (s : Shared), Inv X pins σ H s → wpAny (model X.prog X.w) X.A (eval e X.env) (EP X pins σ Q) X.xe s
def TWt (e : Expr) : TT := fun σ H Q => ∀ (pins : List (Addr × Obj)) (s : Shared), Inv X pins σ H s → wpAny (model X.prog X.w) X.A (isTrue e X.env (eval e X.env)) (TP X pins σ Q) X.xe s
def TWw (e : Expr) : TT := fun σ H Q => ∀ (whole : Sem Value) (pins : List (Addr × Obj)) (s : Shared), Inv X pins σ H s → wpAny (model X.prog X.w) X.A (isTrue e X.env whole) (TP X pins σ Q) X.xe s
def TWa (es : List Expr) : TA := fun σ H Q => ∀ (pos : Pos) (pins : List (Addr × Obj)) (s : Shared), Inv X pins σ H s → wpAny (model X.prog X.w) X.A (spliced (backTo pos (starEach es X.env))) (AP X pins σ Q) X.xe s
def TWs (st : Stmt) : TS := fun D σ H => ∀ (pins : List (Addr × Obj)) (s : Shared), Inv X pins σ H s → wpAny (model X.prog X.w) X.A (exec st X.env) (SP X pins D) X.xe s
def TWss (st : List Stmt) : TS := fun D σ H => ∀ (pins : List (Addr × Obj)) (s : Shared), Inv X pins σ H s → wpAny (model X.prog X.w) X.A (execs st X.env) (SP X pins D) X.xe s
end
section
variable {X : Cx} {e : Expr} {es : List Expr} {st : Stmt} {sts : List Stmt} {σ : L2.St} {H : Hp}
theorem pe_tw : PE X e (TWe X e) := ⟨fun pins s _ _ _ I h => h pins s I⟩
theorem pt_tw : PT X e (TWt X e) := ⟨fun pins s _ _ _ I h => h pins s I⟩
theorem pw_tw : PW X e (TWw X e) := ⟨fun w pins s _ _ _ I h => h w pins s I⟩
theorem pa_tw : PA X es (TWa X es) := ⟨fun pos pins s _ _ _ I h => h pos pins s I⟩
theorem ps_tw : PS X st (TWs X st) := ⟨fun pins s _ _ _ I h => h pins s I⟩
theorem pss_tw : PSs X sts (TWss X sts) := ⟨fun pins s _ _ _ I h => h pins s I⟩
theorem _root_.L2.PE.tw {t : TE} {Q : VK} (h : PE X e t) (q : t σ H Q) : TWe X e σ H Q := fun pins s I => h.run pins s σ H Q I q
theorem _root_.L2.PT.tw {t : TT} {Q : Bool → Hp → Prop} (h : PT X e t) (q : t σ H Q) : TWt X e σ H Q := fun pins s I => h.run pins s σ H Q I q
theorem _root_.L2.PW.tw {t : TT} {Q : Bool → Hp → Prop} (h : PW X e t) (q : t σ H Q) : TWw X e σ H Q := fun w pins s I => h.run w pins s σ H Q I q
theorem _root_.L2.PA.tw {t : TA} {Q : List V → Hp → Prop} (h : PA X es t) (q : t σ H Q) : TWa X es σ H Q := fun pos pins s I => h.run pos pins s σ H Q I q
theorem _root_.L2.PS.tw {t : TS} {D : Ends} (h : PS X st t) (q : t D σ H) : TWs X st D σ H := fun pins s I => h.run pins s σ H D I q
theorem _root_.L2.PSs.tw {t : TS} {D : Ends} (h : PSs X sts t) (q : t D σ H) : TWss X sts D σ H := fun pins s I => h.run pins s σ H D I q
theorem TWe.imp {Q Q' : VK} (h : TWe X e σ H Q) (f : ∀ v H', Q v H' → Q' v H') : TWe X e σ H Q' := fun pins s I => thn (h pins s I) fun u s1 ⟨v, H1, I1, r, q⟩ => ⟨v, H1, I1, r, f _ _ q⟩
end
/-! ### outcomes -/
def ErrOk (X : Cx) (T : CT) (σ : L2.St) (H : Hp) (x : Exc) : Prop :=
  ∃ W : WX, Takes X W ∧ ∀ cls d H', Same H H' → ExcRep (gx X T) H' x cls d → W cls d σ H'
def Out {α : Type} (X : Cx) (T : CT) (σ : L2.St) (H : Hp) (r : Res α) (P : α → Prop) : Prop := match r with
  | .ok a => P a
  | .err x => ErrOk X T σ H x
  | .bad => False
section
variable {X : Cx} {T : CT} {σ : L2.St} {H H' : Hp} {α β : Type}
theorem ErrOk.same {x : Exc} (h : ErrOk X T σ H x) (s : Same H H') : ErrOk X T σ H' x := by
  obtain ⟨W, tk, f⟩ := h
  exact ⟨W, tk, fun cls d H2 s2 r => f cls d H2 (s.trans s2) r⟩
theorem Out.imp {r : Res α} {P P' : α → Prop} (h : Out X T σ H r P) (f : ∀ a, r = .ok a → P a → P' a) : Out X T σ H r P' := by
  cases r with
  | ok a => exact f a rfl h
  | err x => exact h
  | bad => exact h
theorem Out.same {r : Res α} {P : α → Prop} (h : Out X T σ H r P) (s : Same H H') : Out X T σ H' r P := by
  cases r with
  | ok a => exact h
  | err x => exact ErrOk.same h s
  | bad => exact h
theorem Out.bind {r : Res α} {f : α → Res β} {P : β → Prop} (h : Out X T σ H (r >>= f) P) : Out X T σ H r fun a => Out X T σ H (f a) P := by
  cases r with
  | ok a => exact h
  | err x => exact h
  | bad => exact h
end
/-! ### the judgements -/
/-- the value may be an owned list -/
def RepB (G : Gx) (H : Hp) (Av : Addr → Prop) : D → V → Prop
  | .lst ds, v => ∃ a vs, v = .ref a ∧ H a = some (.lst vs) ∧ RepL G H Av ds vs
  | d, v => Rep G H Av d v
theorem Rep.b {G : Gx} {H : Hp} {Av : Addr → Prop} {d : D} {v : V} (h : Rep G H Av d v) : RepB G H Av d v := by
  cases d <;> first | exact h | (obtain ⟨a, vs, e, h1, h2⟩ := h; exact ⟨a, vs, e, h1.1, h2⟩)
theorem RepB.same {G : Gx} {H H' : Hp} {Av : Addr → Prop} {d : D} {v : V} (h : RepB G H Av d v) (s : Same H H') : RepB G H' Av d v := by
  cases d <;> first | exact Rep.same h s | (obtain ⟨a, vs, e, h1, h2⟩ := h; exact ⟨a, vs, e, s _ _ h1, RepL.same h2 s⟩)
theorem kept_less {H : Hp} {Av : Addr → Prop} {p : Addr} : Kept H H (fun a => a = p ∨ Av a) Av := ⟨fun _ _ h _ => h, fun _ z => .inl (.inr z)⟩
theorem kept_new {H : Hp} {Av : Addr → Prop} {p : Addr} {o : HO} (hp : H p = none) : Kept H (upd H p o) Av (fun a => a = p ∨ Av a) :=
  ⟨fun a u h _ => by rw [upd_ne (ne_of_none h hp)]; exact h, fun a z => z.elim (fun q => .inr (by rw [q]; exact hp)) .inl⟩
theorem RepL.new {G : Gx} {H : Hp} {Av : Addr → Prop} {ds : List D} {vs : List V} {p : Addr} {o : HO} (r : RepL G H Av ds vs) (hp : H p = none) : RepL G (upd H p o) (fun a => a = p ∨ Av a) ds vs := RepL.mono (kept_new hp) ds r
section
variable (T : CT) (Fb : Gh) (X : Cx)
structure ME (e : Expr) (m : Env → Res D) : Prop where
  run : ∀ (σ : L2.St) (H : Hp) (F : List Addr) (ρ : Env) (Q : VK), StR (gx X T) Fb H σ ρ F →
    Out X T σ H (m ρ) (fun d => ∀ v H', Same H H' → Rep (gx X T) H' (avo Fb F) d v → Q v H') → TWe X e σ H Q
structure MB (e : Expr) (m : Env → Res D) : Prop where
  run : ∀ (σ : L2.St) (H : Hp) (F : List Addr) (ρ : Env) (Q : VK), StR (gx X T) Fb H σ ρ F →
    Out X T σ H (m ρ) (fun d => ∀ v H', Same H H' → RepB (gx X T) H' (avo Fb F) d v → Q v H') → TWe X e σ H Q
/-- a new list -/
structure MF (e : Expr) (m : Env → Res (List D)) : Prop where
  run : ∀ (σ : L2.St) (H : Hp) (F : List Addr) (ρ : Env) (Q : VK), StR (gx X T) Fb H σ ρ F →
    Out X T σ H (m ρ) (fun ds => ∀ p vs H', H p = none → Same H H' → H' p = some (.lst vs) → RepL (gx X T) H' (fun a => a = p ∨ avo Fb F a) ds vs → Q (.ref p) H') → TWe X e σ H Q
structure MT (e : Expr) (m : Env → Res Bool) : Prop where
  run : ∀ (σ : L2.St) (H : Hp) (F : List Addr) (ρ : Env) (Q : Bool → Hp → Prop), StR (gx X T) Fb H σ ρ F →
    Out X T σ H (m ρ) (fun b => ∀ H', Same H H' → Q b H') → TWt X e σ H Q
structure MW (e : Expr) (m : Env → Res Bool) : Prop where
  run : ∀ (σ : L2.St) (H : Hp) (F : List Addr) (ρ : Env) (Q : Bool → Hp → Prop), StR (gx X T) Fb H σ ρ F →
    Out X T σ H (m ρ) (fun b => ∀ H', Same H H' → Q b H') → TWw X e σ H Q
/-- arguments that are handed on -/
structure ML (es : List Expr) (m : Env → Res (List D)) : Prop where
  run : ∀ (σ : L2.St) (H : Hp) (F : List Addr) (ρ : Env) (Q : List V → Hp → Prop), StR (gx X T) Fb H σ ρ F →
    Out X T σ H (m ρ) (fun ds => ∀ vs H', Same H H' → RepL (gx X T) H' (avo Fb F) ds vs → Q vs H') → TWa X es σ H Q
end
section
variable {T : CT} {Fb : Gh} {X : Cx} {e a b c : Expr} {es : List Expr} {m ma mb mc : Env → Res D} {pos : Pos}
theorem ME.toB (h : ME T Fb X e m) : MB T Fb X e m := ⟨fun σ H F ρ Q S o => h.run σ H F ρ Q S (o.imp fun d _ f v H' s r => f v H' s r.b)⟩
def toE (m : Env → Res (List D)) : Env → Res D := fun ρ => m ρ >>= fun ds => .ok (.lst ds)
theorem MF.toE {m : Env → Res (List D)} (h : MF T Fb X e m) : ME T Fb X e (toE m) :=
  ⟨fun σ H F ρ Q S o => h.run σ H F ρ Q S (o.bind.imp fun ds _ f p vs H' np s hp r => f _ _ s ⟨p, vs, rfl, ⟨hp, fun z => absurd np (S.av p z)⟩, RepL.mono kept_less ds r⟩)⟩
theorem MW.toT {m : Env → Res Bool} (h : MW T Fb X e m) : MT T Fb X e m := ⟨fun σ H F ρ Q S o pins s I => h.run σ H F ρ Q S o _ pins s I⟩
/-! ### names and constants -/
def mVar (i : Nat) : Env → Res D := fun ρ => match ρ[i]? with
  | some (.v (.d x)) => .ok x
  | _ => .bad
def mVarB (i : Nat) : Env → Res D := fun ρ => match ρ[i]? with
  | some (.v (.d x)) => .ok x
  | some (.v (.ol xs)) => .ok (.lst xs)
  | _ => .bad
theorem me_var (i : Nat) {x : Str} (hN : X.N[i]? = some x := by rfl) (hv : Vis X.env.scope x := by first | exact Or.inl rfl | exact Or.inr (Or.inl rfl) | exact Or.inr (Or.inr rfl))
    (hd : (x == ("__debug__" : Str)) = false := by decide) (hcd : (x == ("__classdict__" : Str)) = false := by decide) : ME T Fb X (.Name x pos) (mVar i) := by
  refine ⟨fun σ H F ρ Q S o => ?_⟩
  refine (pe_var hN hv hd hcd).tw ?_
  unfold mVar at o
  split at o
  · rename_i x e
    obtain ⟨o', p, e1, r, _⟩ := S.slot e
    obtain ⟨v, rfl, r⟩ := r
    exact ⟨v, e1, o v H (Same.refl H) r.2⟩
  · exact False.elim o
theorem mb_var (i : Nat) {x : Str} (hN : X.N[i]? = some x := by rfl) (hv : Vis X.env.scope x := by first | exact Or.inl rfl | exact Or.inr (Or.inl rfl) | exact Or.inr (Or.inr rfl))
    (hd : (x == ("__debug__" : Str)) = false := by decide) (hcd : (x == ("__classdict__" : Str)) = false := by decide) : MB T Fb X (.Name x pos) (mVarB i) := by
  refine ⟨fun σ H F ρ Q S o => ?_⟩
  refine (pe_var hN hv hd hcd).tw ?_
  unfold mVarB at o
  split at o
  · rename_i x e
    obtain ⟨o', p, e1, r, _⟩ := S.slot e
    obtain ⟨v, rfl, r⟩ := r
    exact ⟨v, e1, o v H (Same.refl H) r.2.b⟩
  · rename_i xs e
    obtain ⟨o', p, e1, r, _⟩ := S.slot e
    obtain ⟨v, rfl, a, vs, rfl, _, h1, h2⟩ := r
    exact ⟨_, e1, o _ H (Same.refl H) ⟨a, vs, rfl, h1, h2⟩⟩
  · exact False.elim o
def mC (d : D) : Env → Res D := fun _ => .ok d
theorem me_int {i j} : ME T Fb X (.Constant (.int i) j pos) (mC (.int i)) := ⟨fun σ H F ρ Q S o => pe_int.tw (o _ _ (Same.refl H) rfl)⟩
theorem me_bl {b j} : ME T Fb X (.Constant (.bool b) j pos) (mC (.bl b)) := ⟨fun σ H F ρ Q S o => pe_bl.tw (o _ _ (Same.refl H) rfl)⟩
theorem me_non {j} : ME T Fb X (.Constant .none j pos) (mC .non) := ⟨fun σ H F ρ Q S o => pe_non.tw (o _ _ (Same.refl H) rfl)⟩
theorem me_str {x j} : ME T Fb X (.Constant (.str x) j pos) (mC (.str x)) := ⟨fun σ H F ρ Q S o => pe_str.tw (o _ _ (Same.refl H) rfl)⟩
/-- a constant of the module -/
def GloD (K : PySem.W.Frag) (T : CT) (mg : Str → Option Value) (x : Str) (d : D) : Prop := ∃ u v, mg x = some u ∧ RelV v u ∧ ∀ H Av, Rep ⟨K, T⟩ H Av d v
theorem me_glo {x : Str} {d : D} (g : GloD X.K T X.mg x d) (hg : Gl X x := by rfl) (hd : (x == ("__debug__" : Str)) = false := by decide) : ME T Fb X (.Name x pos) (mC d) := by
  obtain ⟨u, v, e, r, f⟩ := g
  exact ⟨fun σ H F ρ Q S o => (pe_glob hg e r hd).tw (o _ _ (Same.refl H) (f _ _))⟩
/-! ### operations on values -/
/-- a two-place operation with its mirror -/
structure OpM (T : CT) (X : Cx) (f : Value → Value → Sem Value) (g : D → D → Res D) : Prop where
  ex : ∃ r : R2, OpR X f r ∧ ∀ (σ : L2.St) (H : Hp) (Av : Addr → Prop) (dx dy : D) (x y : V) (Q : VK), (∀ a, Av a → H a ≠ none) → RepB (gx X T) H Av dx x → RepB (gx X T) H Av dy y →
    Out X T σ H (g dx dy) (fun d => ∀ v H', Same H H' → Rep (gx X T) H' Av d v → Q v H') → r x y H Q
def mBin (g : D → D → Res D) (ma mb : Env → Res D) : Env → Res D := fun ρ => ma ρ >>= fun x => mb ρ >>= fun y => g x y
theorem me_bin {op : Operator} {g : D → D → Res D} (ho : OpM T X (binaryOp op) g) (ha : MB T Fb X a ma) (hb : MB T Fb X b mb) : ME T Fb X (.BinOp a op b pos) (mBin g ma mb) := by
  obtain ⟨r, hr, hf⟩ := ho.ex
  refine ⟨fun σ H F ρ Q S o => (pe_op hr pe_tw pe_tw).tw ?_⟩
  refine ha.run σ H F ρ _ S (o.bind.imp fun x _ o1 v H1 s1 r1 => ?_)
  refine hb.run σ H1 F ρ _ (S.same s1) ((o1.same s1).bind.imp fun y _ o2 u H2 s2 r2 => ?_)
  exact hf σ H2 (avo Fb F) x y v u Q ((S.same s1).same s2).av (r1.same s2) r2 ((o2.same s2).imp fun d _ f w H' s3 r3 => f w H' (s1.trans (s2.trans s3)) r3)
theorem me_cmp {op : CmpOp} {g : D → D → Res D} (ho : OpM T X (compareOp op) g) (ha : MB T Fb X a ma) (hb : MB T Fb X b mb) (hm : behindInMarks op b = false := by first | exact nomark _ | rfl | with_unfolding_all rfl) :
    ME T Fb X (.Compare a [op] [b] pos) (mBin g ma mb) := by
  obtain ⟨r, hr, hf⟩ := ho.ex
  refine ⟨fun σ H F ρ Q S o => (pe_cmpR hr pe_tw pe_tw hm).tw ?_⟩
  refine ha.run σ H F ρ _ S (o.bind.imp fun x _ o1 v H1 s1 r1 => ?_)
  refine hb.run σ H1 F ρ _ (S.same s1) ((o1.same s1).bind.imp fun y _ o2 u H2 s2 r2 => ?_)
  exact hf σ H2 (avo Fb F) x y v u Q ((S.same s1).same s2).av (r1.same s2) r2 ((o2.same s2).imp fun d _ f w H' s3 r3 => f w H' (s1.trans (s2.trans s3)) r3)
/-- a value as a truth: only True and False -/
def tru : D → Res Bool
  | .bl b => .ok b
  | _ => .bad
def mTst (m : Env → Res D) : Env → Res Bool := fun ρ => m ρ >>= tru
theorem mt_cmp {op : CmpOp} {g : D → D → Res D} (ho : OpM T X (compareOp op) g) (ha : MB T Fb X a ma) (hb : MB T Fb X b mb) (hm : behindInMarks op b = false := by first | exact nomark _ | rfl | with_unfolding_all rfl) :
    MT T Fb X (.Compare a [op] [b] pos) (mTst (mBin g ma mb)) := by
  obtain ⟨r, hr, hf⟩ := ho.ex
  refine ⟨fun σ H F ρ Q S o => (pt_cmpR hr pe_tw pe_tw hm).tw ?_⟩
  refine ha.run σ H F ρ _ S (o.bind.bind.imp fun x _ o1 v H1 s1 r1 => ?_)
  refine hb.run σ H1 F ρ _ (S.same s1) ((o1.same s1).bind.imp fun y _ o2 u H2 s2 r2 => ?_)
  refine hf σ H2 (avo Fb F) x y v u _ ((S.same s1).same s2).av (r1.same s2) r2 ((o2.same s2).imp fun d _ f w H' s3 r3 => ?_)
  cases d with
  | bl k => exact ⟨k, r3, f H' (s1.trans (s2.trans s3))⟩
  | _ => exact False.elim f
/-- a test by a value True or False -/
theorem mt_val (h : ME T Fb X e m) (he : ∀ whole, isTrue e X.env whole = (do let v ← whole; standAt e.pos; holding [v] (truthy v)) := by intro _; rfl) : MT T Fb X e (mTst m) := by
  refine ⟨fun σ H F ρ Q S o => (pt_val pe_tw he).tw ?_⟩
  refine h.run σ H F ρ _ S (o.bind.imp fun d _ f v H' s r => ?_)
  cases d with
  | bl k => exact ⟨k, r, f H' s⟩
  | _ => exact False.elim f
/-- a op b op' c -/
def mChain (g g' : D → D → Res D) (ma mb mc : Env → Res D) : Env → Res D := fun ρ => ma ρ >>= fun x => mb ρ >>= fun y => (g x y >>= tru) >>= fun k => match k with
  | true => mc ρ >>= fun z => g' y z
  | false => .ok (.bl false)
theorem chain_core {op op' : CmpOp} {g g' : D → D → Res D} {r r' : R2} {σ : L2.St} {H : Hp} {F : List Addr} {ρ : Env} {Q : VK}
    (hf : ∀ (σ : L2.St) (H : Hp) (Av : Addr → Prop) (dx dy : D) (x y : V) (Q : VK), (∀ a, Av a → H a ≠ none) → RepB (gx X T) H Av dx x → RepB (gx X T) H Av dy y →
      Out X T σ H (g dx dy) (fun d => ∀ v H', Same H H' → Rep (gx X T) H' Av d v → Q v H') → r x y H Q)
    (hf' : ∀ (σ : L2.St) (H : Hp) (Av : Addr → Prop) (dx dy : D) (x y : V) (Q : VK), (∀ a, Av a → H a ≠ none) → RepB (gx X T) H Av dx x → RepB (gx X T) H Av dy y →
      Out X T σ H (g' dx dy) (fun d => ∀ v H', Same H H' → Rep (gx X T) H' Av d v → Q v H') → r' x y H Q)
    (ha : MB T Fb X a ma) (hb : MB T Fb X b mb) (hc : MB T Fb X c mc) (S : StR (gx X T) Fb H σ ρ F)
    (o : Out X T σ H (mChain g g' ma mb mc ρ) fun d => ∀ v H', Same H H' → Rep (gx X T) H' (avo Fb F) d v → Q v H') : tChain r r' (TWe X a) (TWe X b) (TWe X c) σ H Q := by
  refine ha.run σ H F ρ _ S (o.bind.imp fun x _ o1 v H1 s1 r1 => ?_)
  refine hb.run σ H1 F ρ _ (S.same s1) ((o1.same s1).bind.imp fun y _ o2 u H2 s2 r2 => ?_)
  have S2 := (S.same s1).same s2
  refine hf σ H2 (avo Fb F) x y v u _ S2.av (r1.same s2) r2 ((o2.same s2).bind.bind.imp fun d _ o3 w H3 s3 r3 => ?_)
  cases d with
  | bl k =>
    refine ⟨k, r3, ?_⟩
    have o4 : Out X T σ H2 (match k with | true => mc ρ >>= fun z => g' y z | false => .ok (.bl false)) fun d => ∀ v H', Same H H' → Rep (gx X T) H' (avo Fb F) d v → Q v H' := o3
    cases k with
    | true =>
      rw [if_pos rfl]
      refine hc.run σ H3 F ρ _ (S2.same s3) ((o4.same s3).bind.imp fun z _ o5 w' H4 s4 r4 => ?_)
      exact hf' σ H4 (avo Fb F) y z u w' Q ((S2.same s3).same s4).av ((r2.same s3).same s4) r4 ((o5.same s4).imp fun d _ f w H' s5 r5 => f w H' (s1.trans (s2.trans (s3.trans (s4.trans s5)))) r5)
    | false =>
      rw [if_neg Bool.false_ne_true]
      exact o4 _ _ (s1.trans (s2.trans s3)) rfl
  | _ => exact False.elim o3
theorem me_chain {op op' : CmpOp} {g g' : D → D → Res D} (ho : OpM T X (compareOp op) g) (ho' : OpM T X (compareOp op') g') (ha : MB T Fb X a ma) (hb : MB T Fb X b mb) (hc : MB T Fb X c mc)
    (hm : lastMarks [op, op'] [b, c] = false := by with_unfolding_all rfl) : ME T Fb X (.Compare a [op, op'] [b, c] pos) (mChain g g' ma mb mc) := by
  obtain ⟨r, hr, hf⟩ := ho.ex
  obtain ⟨r', hr', hf'⟩ := ho'.ex
  exact ⟨fun σ H F ρ Q S o => (pe_chain hr hr' pe_tw pe_tw pe_tw hm).tw (chain_core (op := op) (op' := op') hf hf' ha hb hc S o)⟩
theorem mt_chain {op op' : CmpOp} {g g' : D → D → Res D} (ho : OpM T X (compareOp op) g) (ho' : OpM T X (compareOp op') g') (ha : MB T Fb X a ma) (hb : MB T Fb X b mb) (hc : MB T Fb X c mc)
    (hm : lastMarks [op, op'] [b, c] = false := by with_unfolding_all rfl) : MT T Fb X (.Compare a [op, op'] [b, c] pos) (mTst (mChain g g' ma mb mc)) := by
  obtain ⟨r, hr, hf⟩ := ho.ex
  obtain ⟨r', hr', hf'⟩ := ho'.ex
  refine ⟨fun σ H F ρ Q S o => (pt_chain hr hr' pe_tw pe_tw pe_tw hm).tw (chain_core (op := op) (op' := op') hf hf' ha hb hc S (o.bind.imp fun d _ f v H' s r => ?_))⟩
  cases d with
  | bl k => exact ⟨k, r, f H' s⟩
  | _ => exact False.elim f
/-! ### and, or, not, if -/
def mAnd (ta tb : Env → Res Bool) : Env → Res Bool := fun ρ => ta ρ >>= fun k => match k with
  | true => tb ρ
  | false => .ok false
def mOr (ta tb : Env → Res Bool) : Env → Res Bool := fun ρ => ta ρ >>= fun k => match k with
  | true => .ok true
  | false => tb ρ
def mNot (t : Env → Res Bool) : Env → Res Bool := fun ρ => t ρ >>= fun k => .ok (!k)
variable {ta tb : Env → Res Bool} {rest : List Expr}
theorem mw_and1 (ha : MT T Fb X a ta) : MW T Fb X (.BoolOp .And [a] pos) ta := ⟨fun σ H F ρ Q S o => (pw_and1 pt_tw).tw (ha.run σ H F ρ Q S o)⟩
theorem mw_or1 (ha : MT T Fb X a ta) : MW T Fb X (.BoolOp .Or [a] pos) ta := ⟨fun σ H F ρ Q S o => (pw_or1 pt_tw).tw (ha.run σ H F ρ Q S o)⟩
theorem mw_and (ha : MT T Fb X a ta) (hb : MW T Fb X (.BoolOp .And (b :: rest) pos) tb) : MW T Fb X (.BoolOp .And (a :: b :: rest) pos) (mAnd ta tb) := by
  refine ⟨fun σ H F ρ Q S o => (pw_and pt_tw pw_tw).tw ?_⟩
  refine ha.run σ H F ρ _ S (o.bind.imp fun k _ o1 H1 s1 => ?_)
  have o2 : Out X T σ H (match k with | true => tb ρ | false => .ok false) fun b => ∀ H', Same H H' → Q b H' := o1
  cases k with
  | true => exact iteT (hb.run σ H1 F ρ _ (S.same s1) ((o2.same s1).imp fun b _ f H2 s2 => f H2 (s1.trans s2)))
  | false => exact iteF (o2 H1 s1)
theorem mw_or (ha : MT T Fb X a ta) (hb : MW T Fb X (.BoolOp .Or (b :: rest) pos) tb) : MW T Fb X (.BoolOp .Or (a :: b :: rest) pos) (mOr ta tb) := by
  refine ⟨fun σ H F ρ Q S o => (pw_or pt_tw pw_tw).tw ?_⟩
  refine ha.run σ H F ρ _ S (o.bind.imp fun k _ o1 H1 s1 => ?_)
  have o2 : Out X T σ H (match k with | true => .ok true | false => tb ρ) fun b => ∀ H', Same H H' → Q b H' := o1
  cases k with
  | true => exact iteT (o2 H1 s1)
  | false => exact iteF (hb.run σ H1 F ρ _ (S.same s1) ((o2.same s1).imp fun b _ f H2 s2 => f H2 (s1.trans s2)))
theorem mt_not (ha : MT T Fb X a ta) : MT T Fb X (.UnaryOp .Not a pos) (mNot ta) :=
  ⟨fun σ H F ρ Q S o => (pt_not pt_tw).tw (ha.run σ H F ρ _ S (o.bind.imp fun k _ f H1 s1 => f H1 s1))⟩
/-- .. as values -/
def mAndV (ma mb : Env → Res D) : Env → Res D := fun ρ => (ma ρ >>= tru) >>= fun k => match k with
  | true => mb ρ
  | false => .ok (.bl false)
def mOrV (ma mb : Env → Res D) : Env → Res D := fun ρ => (ma ρ >>= tru) >>= fun k => match k with
  | true => .ok (.bl true)
  | false => mb ρ
def mNotV (ma : Env → Res D) : Env → Res D := fun ρ => (ma ρ >>= tru) >>= fun k => .ok (.bl (!k))
theorem me_one {op} (h : ME T Fb X a ma) : ME T Fb X (.BoolOp op [a] pos) ma := ⟨fun σ H F ρ Q S o => (pe_one pe_tw).tw (h.run σ H F ρ Q S o)⟩
theorem me_and (ha : ME T Fb X a ma) (hb : ME T Fb X (.BoolOp .And (b :: rest) pos) mb) : ME T Fb X (.BoolOp .And (a :: b :: rest) pos) (mAndV ma mb) := by
  refine ⟨fun σ H F ρ Q S o => (pe_and pe_tw pe_tw).tw ?_⟩
  refine ha.run σ H F ρ _ S (o.bind.bind.imp fun d _ o1 v H1 s1 r1 => ?_)
  cases d with
  | bl k =>
    refine ⟨k, r1, ?_⟩
    have o2 : Out X T σ H (match k with | true => mb ρ | false => .ok (.bl false)) fun d => ∀ v H', Same H H' → Rep (gx X T) H' (avo Fb F) d v → Q v H' := o1
    cases k with
    | true => exact iteT (hb.run σ H1 F ρ _ (S.same s1) ((o2.same s1).imp fun b _ f v H2 s2 r => f v H2 (s1.trans s2) r))
    | false => exact iteF (o2 _ _ s1 rfl)
  | _ => exact False.elim o1
theorem me_or (ha : ME T Fb X a ma) (hb : ME T Fb X (.BoolOp .Or (b :: rest) pos) mb) : ME T Fb X (.BoolOp .Or (a :: b :: rest) pos) (mOrV ma mb) := by
  refine ⟨fun σ H F ρ Q S o => (pe_or pe_tw pe_tw).tw ?_⟩
  refine ha.run σ H F ρ _ S (o.bind.bind.imp fun d _ o1 v H1 s1 r1 => ?_)
  cases d with
  | bl k =>
    refine ⟨k, r1, ?_⟩
    have o2 : Out X T σ H (match k with | true => .ok (.bl true) | false => mb ρ) fun d => ∀ v H', Same H H' → Rep (gx X T) H' (avo Fb F) d v → Q v H' := o1
    cases k with
    | true => exact iteT (o2 _ _ s1 rfl)
    | false => exact iteF (hb.run σ H1 F ρ _ (S.same s1) ((o2.same s1).imp fun b _ f v H2 s2 r => f v H2 (s1.trans s2) r))
  | _ => exact False.elim o1
theorem me_not (ha : ME T Fb X a ma) : ME T Fb X (.UnaryOp .Not a pos) (mNotV ma) := by
  refine ⟨fun σ H F ρ Q S o => (pe_not pe_tw).tw ?_⟩
  refine ha.run σ H F ρ _ S (o.bind.bind.imp fun d _ o1 v H1 s1 r1 => ?_)
  cases d with
  | bl k => exact ⟨k, r1, o1 _ _ s1 rfl⟩
  | _ => exact False.elim o1
def mIf {α : Type} (t : Env → Res Bool) (ma mb : Env → Res α) : Env → Res α := fun ρ => t ρ >>= fun k => match k with
  | true => ma ρ
  | false => mb ρ
theorem me_if {t : Env → Res Bool} (hc : MT T Fb X c t) (ha : ME T Fb X a ma) (hb : ME T Fb X b mb) : ME T Fb X (.IfExp c a b pos) (mIf t ma mb) := by
  refine ⟨fun σ H F ρ Q S o => (pe_ifExp pt_tw pe_tw pe_tw).tw ?_⟩
  refine hc.run σ H F ρ _ S (o.bind.imp fun k _ o1 H1 s1 => ?_)
  have o2 : Out X T σ H (match k with | true => ma ρ | false => mb ρ) fun d => ∀ v H', Same H H' → Rep (gx X T) H' (avo Fb F) d v → Q v H' := o1
  cases k with
  | true => exact iteT (ha.run σ H1 F ρ _ (S.same s1) ((o2.same s1).imp fun b _ f v H2 s2 r => f v H2 (s1.trans s2) r))
  | false => exact iteF (hb.run σ H1 F ρ _ (S.same s1) ((o2.same s1).imp fun b _ f v H2 s2 r => f v H2 (s1.trans s2) r))
/-! ### arguments, displays -/
def mNil : Env → Res (List D) := fun _ => .ok []
def mCons (ma : Env → Res D) (mr : Env → Res (List D)) : Env → Res (List D) := fun ρ => ma ρ >>= fun x => mr ρ >>= fun xs => .ok (x :: xs)
theorem ml_nil : ML T Fb X [] mNil := ⟨fun σ H F ρ Q S o => pa_nil.tw (o _ _ (Same.refl H) rfl)⟩
theorem ml_cons {mr : Env → Res (List D)} (ha : ME T Fb X e ma) (hr : ML T Fb X es mr) (hs : starEach (e :: es) X.env = (false, eval e X.env) :: starEach es X.env := by rfl) : ML T Fb X (e :: es) (mCons ma mr) := by
  refine ⟨fun σ H F ρ Q S o => (pa_cons pe_tw pa_tw hs).tw ?_⟩
  refine ha.run σ H F ρ _ S (o.bind.imp fun x _ o1 v H1 s1 r1 => ?_)
  refine hr.run σ H1 F ρ _ (S.same s1) ((o1.same s1).bind.imp fun xs _ f vs H2 s2 r2 => ?_)
  exact f _ _ (s1.trans s2) ⟨v, vs, rfl, r1.same s2, r2⟩
/-- the first argument borrowed -/
structure MLb (T : CT) (Fb : Gh) (X : Cx) (es : List Expr) (m : Env → Res (List D)) : Prop where
  run : ∀ (σ : L2.St) (H : Hp) (F : List Addr) (ρ : Env) (Q : List V → Hp → Prop), StR (gx X T) Fb H σ ρ F →
    Out X T σ H (m ρ) (fun ds => ∀ vs H', Same H H' → Paired (RepB (gx X T) H' (avo Fb F)) ds vs → Q vs H') → TWa X es σ H Q
theorem mlb_nil : MLb T Fb X [] mNil := ⟨fun σ H F ρ Q S o => pa_nil.tw (o _ _ (Same.refl H) .nil)⟩
theorem paired_same {G : Gx} {H H' : Hp} {Av : Addr → Prop} (s : Same H H') : ∀ {ds : List D} {vs : List V}, Paired (RepB G H Av) ds vs → Paired (RepB G H' Av) ds vs
  | _, _, .nil => .nil
  | _, _, .cons r t => .cons (r.same s) (paired_same s t)
theorem mlb_cons {mr : Env → Res (List D)} (ha : MB T Fb X e ma) (hr : MLb T Fb X es mr) (hs : starEach (e :: es) X.env = (false, eval e X.env) :: starEach es X.env := by rfl) : MLb T Fb X (e :: es) (mCons ma mr) := by
  refine ⟨fun σ H F ρ Q S o => (pa_cons pe_tw pa_tw hs).tw ?_⟩
  refine ha.run σ H F ρ _ S (o.bind.imp fun x _ o1 v H1 s1 r1 => ?_)
  refine hr.run σ H1 F ρ _ (S.same s1) ((o1.same s1).bind.imp fun xs _ f vs H2 s2 r2 => ?_)
  exact f _ _ (s1.trans s2) (.cons (r1.same s2) r2)
def mTup (m : Env → Res (List D)) : Env → Res D := fun ρ => m ρ >>= fun xs => if xs.length ≤ sizeLine then .ok (.tup xs) else .bad
theorem avo_no {Fb : Gh} {H : Hp} {F : List Addr} (S : ∀ a, avo Fb F a → H a ≠ none) {p : Addr} (h : H p = none) : ¬ avo Fb F p := fun z => absurd h (S p z)
theorem me_tup {x1} {m : Env → Res (List D)} (h : ML T Fb X es m) : ME T Fb X (.Tuple es x1 pos) (mTup m) := by
  refine ⟨fun σ H F ρ Q S o => (pe_tup pa_tw).tw ?_⟩
  refine h.run σ H F ρ _ S (o.bind.imp fun xs _ o1 vs H1 s1 r1 => ?_)
  by_cases hz : xs.length ≤ sizeLine
  · have o2 : ∀ v H', Same H H' → Rep (gx X T) H' (avo Fb F) (.tup xs) v → Q v H' := by
      have o1 : Out X T σ H (if xs.length ≤ sizeLine then Res.ok (D.tup xs) else .bad) _ := o1
      rw [if_pos hz] at o1
      exact o1
    refine ⟨by rw [r1.length]; exact hz, fun p hp => o2 _ _ (s1.trans (same_upd hp)) ⟨p, vs, rfl, .inl ⟨upd_same, avo_no (S.same s1).av hp⟩, r1.same (same_upd hp)⟩⟩
  · have o1 : Out X T σ H (if xs.length ≤ sizeLine then Res.ok (D.tup xs) else .bad) _ := o1
    rw [if_neg hz] at o1
    exact False.elim o1
def mLst (m : Env → Res (List D)) : Env → Res (List D) := fun ρ => m ρ >>= fun xs => if xs.length ≤ sizeLine then .ok xs else .bad
theorem mf_lst {m : Env → Res (List D)} (h : ML T Fb X es m) : MF T Fb X (.List es pos) (mLst m) := by
  refine ⟨fun σ H F ρ Q S o => (pe_lst pa_tw).tw ?_⟩
  refine h.run σ H F ρ _ S (o.bind.imp fun xs _ o1 vs H1 s1 r1 => ?_)
  by_cases hz : xs.length ≤ sizeLine
  · have o1 : Out X T σ H (if xs.length ≤ sizeLine then .ok xs else .bad) _ := o1
    rw [if_pos hz] at o1
    refine ⟨by rw [r1.length]; exact hz, fun p hp => o1 p vs _ (s1.free hp) (s1.trans (same_upd hp)) upd_same (r1.new hp)⟩
  · have o1 : Out X T σ H (if xs.length ≤ sizeLine then .ok xs else .bad) _ := o1
    rw [if_neg hz] at o1
    exact False.elim o1
end
end Cr
/-! Core, part 3: operators, comparisons, items, slices, calls. -/
namespace Cr
open PySem PySem.Spec PyProof.Rows L2
/-! ### mirrors of the operators -/
def mulOk (a b : Int) : Prop := CMul a b ∨ CMulW a b
instance (a b : Int) : Decidable (mulOk a b) := by unfold mulOk CMul CMulW; infer_instance
def divOk (a b : Int) : Prop := CDivW a b
instance (a b : Int) : Decidable (divOk a b) := by unfold divOk CDivW; infer_instance
def powOk (a b : Int) : Prop := CPow a b
instance (a b : Int) : Decidable (powOk a b) := by unfold powOk CPow; infer_instance
def addD : D → D → Res D
  | .int a, .int b => .ok (.int (a + b))
  | .str a, .str b => if a.length + b.length ≤ sizeLine then .ok (.str (a ++ b)) else .bad
  | .lst a, .lst b => if a.length + b.length ≤ sizeLine then .ok (.lst (a ++ b)) else .bad
  | .tup a, .tup b => if a ≠ [] ∧ b ≠ [] ∧ a.length + b.length ≤ sizeLine then .ok (.tup (a ++ b)) else .bad
  | _, _ => .bad
def subD : D → D → Res D
  | .int a, .int b => .ok (.int (a - b))
  | _, _ => .bad
def mulD : D → D → Res D
  | .int a, .int b => if mulOk a b then .ok (.int (a * b)) else .bad
  | .lst a, .int k => if -(2 ^ 63) ≤ k ∧ k < 2 ^ 63 ∧ a.length * k.toNat ≤ sizeLine then .ok (.lst (List.replicate k.toNat a).flatten) else .bad
  | _, _ => .bad
def fdivD : D → D → Res D
  | .int a, .int b => if divOk a b then .ok (.int (a / b)) else .bad
  | _, _ => .bad
def modD : D → D → Res D
  | .int a, .int b => if 0 < b then .ok (.int (a % b)) else .bad
  | _, _ => .bad
def powD : D → D → Res D
  | .int a, .int b => if powOk a b then .ok (.int (a ^ b.toNat)) else .bad
  | _, _ => .bad
def shlD : D → D → Res D
  | .int a, .int b => if powOk a b then .ok (.int (a * 2 ^ b.toNat)) else .bad
  | _, _ => .bad
def shrD : D → D → Res D
  | .int a, .int b => if 0 ≤ b then .ok (.int (a / 2 ^ b.toNat)) else .bad
  | _, _ => .bad
def bandD : D → D → Res D
  | .int a, .int b => .ok (.int (Builtin.bitAnd a b))
  | _, _ => .bad
def ltD : D → D → Res D
  | .int a, .int b => .ok (.bl (decide (a < b)))
  | _, _ => .bad
def leD : D → D → Res D
  | .int a, .int b => .ok (.bl (decide (a ≤ b)))
  | _, _ => .bad
def gtD : D → D → Res D
  | .int a, .int b => .ok (.bl (decide (b < a)))
  | _, _ => .bad
def geD : D → D → Res D
  | .int a, .int b => .ok (.bl (decide (b ≤ a)))
  | _, _ => .bad
def isNonD : D → D → Res D
  | .non, .non => .ok (.bl true)
  | _, .non => .ok (.bl false)
  | _, _ => .bad
def notNonD : D → D → Res D
  | .non, .non => .ok (.bl false)
  | _, .non => .ok (.bl true)
  | _, _ => .bad
mutual
def toPy : D → Option PyData
  | .non => some .none
  | .bl b => some (.bool b)
  | .int i => some (.int i)
  | .str x => some (.str x)
  | .tup ds => match toPys ds with
    | some ps => some (.tuple ps)
    | none => none
  | .lst ds => match toPys ds with
    | some ps => some (.list ps)
    | none => none
  | .obj _ _ => none
  | .scr _ => none
def toPys : List D → Option (List PyData)
  | [] => some []
  | d :: ds => match toPy d, toPys ds with
    | some p, some ps => some (p :: ps)
    | _, _ => none
end
def eqB : D → D → Res Bool
  | .int a, .int b => .ok (decide (a = b))
  | .str a, .str b => .ok (decide (a = b))
  | .bl a, .bl b => .ok (decide (a = b))
  | .non, .non => .ok true
  | x, y => match toPy x, toPy y with
    | some p, some q => if SeqAt.shaped p && SeqAt.shaped q then .ok (PyData.eqv p q) else .bad
    | _, _ => .bad
def eqD : D → D → Res D := fun x y => eqB x y >>= fun k => .ok (.bl k)
def neD : D → D → Res D := fun x y => eqB x y >>= fun k => .ok (.bl (!k))
def flatD : D → Option V
  | .non => some .non
  | .bl b => some (.bl b)
  | .int i => some (.int i)
  | .str x => some (.str x)
  | _ => none
def flats : List D → Option (List V)
  | [] => some []
  | d :: ds => match flatD d, flats ds with
    | some v, some vs => some (v :: vs)
    | _, _ => none
def inB : D → D → Res Bool
  | x, .lst ys => match flatD x, flats ys with
    | some v, some vs => .ok (inV v vs)
    | _, _ => .bad
  | x, .tup ys => match flatD x, flats ys with
    | some v, some vs => .ok (inV v vs)
    | _, _ => .bad
  | .str i, .str j => .ok (!(Builtin.Str.occurrences j i 0 j.length 1).isEmpty)
  | _, _ => .bad
def inD : D → D → Res D := fun x y => inB x y >>= fun k => .ok (.bl k)
def ninD : D → D → Res D := fun x y => inB x y >>= fun k => .ok (.bl (!k))
/-! ### the rules -/
section
variable {T : CT} {X : Cx}
theorem op_int {f : Value → Value → Sem Value} {C : Int → Int → Prop} [∀ i j, Decidable (C i j)] {gi : Int → Int → D} {gv : Int → Int → V} {g : D → D → Res D} (h : OpR X f (rI C gv)) (hg : ∀ i j H Av, Rep (gx X T) H Av (gi i j) (gv i j))
    (h1 : ∀ i j, g (.int i) (.int j) = if C i j then .ok (gi i j) else .bad) (h2 : ∀ x y d, g x y = .ok d → ∃ i j, x = .int i ∧ y = .int j) (h3 : ∀ x y e, g x y ≠ .err e) : OpM T X f g := by
  refine ⟨_, h, fun σ H Av dx dy x y Q hav rx ry o => ?_⟩
  cases e : g dx dy with
  | ok d =>
    obtain ⟨i, j, rfl, rfl⟩ := h2 _ _ _ e
    rw [h1] at e
    by_cases hc : C i j
    · rw [h1, if_pos hc] at o
      exact ⟨i, j, rx, ry, hc, o _ _ (Same.refl H) (hg _ _ _ _)⟩
    · rw [if_neg hc] at e; cases e
  | err z => exact absurd e (h3 _ _ _)
  | bad => rw [e] at o; exact False.elim o
theorem op_int0 {f : Value → Value → Sem Value} {gi : Int → Int → D} {gv : Int → Int → V} {g : D → D → Res D} (h : OpR X f (rI0 gv)) (hg : ∀ i j H Av, Rep (gx X T) H Av (gi i j) (gv i j))
    (h1 : ∀ i j, g (.int i) (.int j) = .ok (gi i j)) (h2 : ∀ x y d, g x y = .ok d → ∃ i j, x = .int i ∧ y = .int j) (h3 : ∀ x y e, g x y ≠ .err e) : OpM T X f g := by
  refine ⟨_, h, fun σ H Av dx dy x y Q hav rx ry o => ?_⟩
  cases e : g dx dy with
  | ok d =>
    obtain ⟨i, j, rfl, rfl⟩ := h2 _ _ _ e
    rw [h1] at o
    exact ⟨i, j, rx, ry, o _ _ (Same.refl H) (hg _ _ _ _)⟩
  | err z => exact absurd e (h3 _ _ _)
  | bad => rw [e] at o; exact False.elim o
theorem om_sub : OpM T X (binaryOp .Sub) subD := op_int0 (gi := fun i j => .int (i - j)) op_sub (fun _ _ _ _ => rfl) (fun _ _ => rfl) (fun x y d h => by cases x <;> cases y <;> first | exact ⟨_, _, rfl, rfl⟩ | (exact nomatch h)) (fun x y e h => by cases x <;> cases y <;> exact nomatch h)
theorem om_band : OpM T X (binaryOp .BitAnd) bandD := op_int0 (gi := fun i j => .int (Builtin.bitAnd i j)) op_and (fun _ _ _ _ => rfl) (fun _ _ => rfl) (fun x y d h => by cases x <;> cases y <;> first | exact ⟨_, _, rfl, rfl⟩ | (exact nomatch h)) (fun x y e h => by cases x <;> cases y <;> exact nomatch h)
theorem om_lt : OpM T X (compareOp .Lt) ltD := op_int0 (gi := fun i j => .bl (decide (i < j))) op_lt (fun _ _ _ _ => rfl) (fun _ _ => rfl) (fun x y d h => by cases x <;> cases y <;> first | exact ⟨_, _, rfl, rfl⟩ | (exact nomatch h)) (fun x y e h => by cases x <;> cases y <;> exact nomatch h)
theorem om_le : OpM T X (compareOp .LtE) leD := op_int0 (gi := fun i j => .bl (decide (i ≤ j))) op_le (fun _ _ _ _ => rfl) (fun _ _ => rfl) (fun x y d h => by cases x <;> cases y <;> first | exact ⟨_, _, rfl, rfl⟩ | (exact nomatch h)) (fun x y e h => by cases x <;> cases y <;> exact nomatch h)
theorem om_gt : OpM T X (compareOp .Gt) gtD := op_int0 (gi := fun i j => .bl (decide (j < i))) op_gt (fun _ _ _ _ => rfl) (fun _ _ => rfl) (fun x y d h => by cases x <;> cases y <;> first | exact ⟨_, _, rfl, rfl⟩ | (exact nomatch h)) (fun x y e h => by cases x <;> cases y <;> exact nomatch h)
theorem om_ge : OpM T X (compareOp .GtE) geD := op_int0 (gi := fun i j => .bl (decide (j ≤ i))) op_ge (fun _ _ _ _ => rfl) (fun _ _ => rfl) (fun x y d h => by cases x <;> cases y <;> first | exact ⟨_, _, rfl, rfl⟩ | (exact nomatch h)) (fun x y e h => by cases x <;> cases y <;> exact nomatch h)
theorem om_fdiv : OpM T X (binaryOp .FloorDiv) fdivD := by
  refine op_int (C := divOk) (gi := fun i j => .int (i / j)) op_fdivW (fun _ _ _ _ => rfl) (fun _ _ => rfl) (fun x y d h => ?_) (fun x y e h => ?_)
  · cases x <;> cases y <;> first | exact ⟨_, _, rfl, rfl⟩ | (exact nomatch h)
  · cases x <;> cases y <;> first | (cases h; done) | (simp only [fdivD] at h; split at h <;> cases h)
theorem om_mod : OpM T X (binaryOp .Mod) modD := by
  refine op_int (C := fun _ j => 0 < j) (gi := fun i j => .int (i % j)) op_mod (fun _ _ _ _ => rfl) (fun _ _ => rfl) (fun x y d h => ?_) (fun x y e h => ?_)
  · cases x <;> cases y <;> first | exact ⟨_, _, rfl, rfl⟩ | (exact nomatch h)
  · cases x <;> cases y <;> first | (cases h; done) | (simp only [modD] at h; split at h <;> cases h)
theorem om_pow : OpM T X (binaryOp .Pow) powD := by
  refine op_int (C := powOk) (gi := fun i j => .int (i ^ j.toNat)) op_pow (fun _ _ _ _ => rfl) (fun _ _ => rfl) (fun x y d h => ?_) (fun x y e h => ?_)
  · cases x <;> cases y <;> first | exact ⟨_, _, rfl, rfl⟩ | (exact nomatch h)
  · cases x <;> cases y <;> first | (cases h; done) | (simp only [powD] at h; split at h <;> cases h)
theorem om_shl : OpM T X (binaryOp .LShift) shlD := by
  refine op_int (C := powOk) (gi := fun i j => .int (i * 2 ^ j.toNat)) op_shl (fun _ _ _ _ => rfl) (fun _ _ => rfl) (fun x y d h => ?_) (fun x y e h => ?_)
  · cases x <;> cases y <;> first | exact ⟨_, _, rfl, rfl⟩ | (exact nomatch h)
  · cases x <;> cases y <;> first | (cases h; done) | (simp only [shlD] at h; split at h <;> cases h)
theorem om_shr : OpM T X (binaryOp .RShift) shrD := by
  refine op_int (C := fun _ j => 0 ≤ j) (gi := fun i j => .int (i / 2 ^ j.toNat)) op_shr (fun _ _ _ _ => rfl) (fun _ _ => rfl) (fun x y d h => ?_) (fun x y e h => ?_)
  · cases x <;> cases y <;> first | exact ⟨_, _, rfl, rfl⟩ | (exact nomatch h)
  · cases x <;> cases y <;> first | (cases h; done) | (simp only [shrD] at h; split at h <;> cases h)
/-- a result where a condition holds -/
theorem Out.if {α : Type} {σ : L2.St} {H : Hp} {c : Prop} [Decidable c] {a : α} {P : α → Prop} (h : Out X T σ H (if c then .ok a else .bad) P) : c ∧ P a := by
  by_cases hc : c
  · rw [if_pos hc] at h; exact ⟨hc, h⟩
  · rw [if_neg hc] at h; exact False.elim h
theorem tup_sq {G : Gx} {H : Hp} {Av : Addr → Prop} {a : Addr} {vs : List V} (h : (H a = some (.tup vs) ∧ ¬ Av a) ∨ KTup G.K a vs) : SqT G.K H a vs := by
  rcases h with h | h
  · exact .inl (.inl h.1)
  · exact .inr h
theorem RepL.ne_nil {G : Gx} {H : Hp} {Av : Addr → Prop} {ds : List D} {vs : List V} (h : RepL G H Av ds vs) (n : ds ≠ []) : vs ≠ [] := fun e => by
  have := h.length
  rw [e] at this
  cases ds with
  | nil => exact n rfl
  | cons _ _ => simp at this
theorem om_add : OpM T X (binaryOp .Add) addD := by
  refine ⟨_, (op_add.or (op_add_str.or (op_cat.or op_catT))), fun σ H Av dx dy x y Q hav rx ry o => ?_⟩
  cases dx <;> cases dy <;> try exact False.elim o
  · exact .inl ⟨_, _, rx, ry, o _ _ (Same.refl H) rfl⟩
  · obtain ⟨hz, f⟩ := o.if
    exact .inr (.inl ⟨_, _, rx, ry, hz, f _ _ (Same.refl H) rfl⟩)
  · obtain ⟨⟨n1, n2, hz⟩, f⟩ := o.if
    obtain ⟨a, vs, rfl, ha, rv⟩ := rx
    obtain ⟨b, ws, rfl, hb, rw'⟩ := ry
    refine .inr (.inr (.inr ⟨a, b, vs, ws, rfl, rfl, tup_sq ha, tup_sq hb, rv.ne_nil n1, by rw [rv.length, rw'.length]; exact hz, fun e => absurd e (rw'.ne_nil n2), fun _ p hp => ?_⟩))
    have s := same_upd (o := .tup (vs ++ ws)) hp
    exact f _ _ s ⟨p, _, rfl, .inl ⟨upd_same, fun z => absurd hp (hav p z)⟩, (rv.same s).append (rw'.same s)⟩
  · obtain ⟨hz, f⟩ := o.if
    obtain ⟨a, vs, rfl, ha, rv⟩ := rx
    obtain ⟨b, ws, rfl, hb, rw'⟩ := ry
    refine .inr (.inr (.inl ⟨a, b, vs, ws, rfl, rfl, ha, hb, by rw [rv.length, rw'.length]; exact hz, fun p hp => ?_⟩))
    have s := same_upd (o := .lst (vs ++ ws)) hp
    exact f _ _ s ⟨p, _, rfl, ⟨upd_same, fun z => absurd hp (hav p z)⟩, (rv.same s).append (rw'.same s)⟩
theorem om_mul : OpM T X (binaryOp .Mult) mulD := by
  refine ⟨_, ((op_mul.or op_mulW).or op_rep), fun σ H Av dx dy x y Q hav rx ry o => ?_⟩
  cases dx <;> cases dy <;> try exact False.elim o
  · obtain ⟨hz, f⟩ := o.if
    rcases hz with hz | hz
    · exact .inl (.inl ⟨_, _, rx, ry, hz, f _ _ (Same.refl H) rfl⟩)
    · exact .inl (.inr ⟨_, _, rx, ry, hz, f _ _ (Same.refl H) rfl⟩)
  · rename_i ls k
    obtain ⟨⟨h1, h2, h3⟩, f⟩ := o.if
    obtain ⟨a, vs, rfl, ha, rv⟩ := rx
    refine .inr ⟨a, _, vs, rfl, ry, ha, h1, h2, by rw [rv.length]; exact h3, fun p hp => ?_⟩
    have s := same_upd (o := .lst (List.replicate (Int.toNat k) vs).flatten) hp
    exact f _ _ s ⟨p, _, rfl, ⟨upd_same, fun z => absurd hp (hav p z)⟩, (rv.same s).rep _⟩
theorem om_is : OpM T X (compareOp .Is) isNonD := by
  refine ⟨_, op_isN, fun σ H Av dx dy x y Q hav rx ry o => ?_⟩
  cases dy with
  | non =>
    refine ⟨ry, ?_⟩
    cases dx with
    | non => have rx : x = V.non := rx; rw [rx]; exact o _ _ (Same.refl H) rfl
    | bl b => have rx : x = V.bl b := rx; rw [rx]; exact o _ _ (Same.refl H) rfl
    | int b => have rx : x = V.int b := rx; rw [rx]; exact o _ _ (Same.refl H) rfl
    | str b => have rx : x = V.str b := rx; rw [rx]; exact o _ _ (Same.refl H) rfl
    | tup ds => obtain ⟨a, _, e, _⟩ := rx; rw [e]; exact o _ _ (Same.refl H) rfl
    | lst ds => obtain ⟨a, _, e, _⟩ := rx; rw [e]; exact o _ _ (Same.refl H) rfl
    | obj c ds => obtain ⟨a, _, _, e, _⟩ := rx; rw [e]; exact o _ _ (Same.refl H) rfl
    | scr ds => obtain ⟨a, e, _⟩ := rx; rw [e]; exact o _ _ (Same.refl H) rfl
  | _ => cases dx <;> exact False.elim o
theorem om_isnot : OpM T X (compareOp .IsNot) notNonD := by
  refine ⟨_, op_notN, fun σ H Av dx dy x y Q hav rx ry o => ?_⟩
  cases dy with
  | non =>
    refine ⟨ry, ?_⟩
    cases dx with
    | non => have rx : x = V.non := rx; rw [rx]; exact o _ _ (Same.refl H) rfl
    | bl b => have rx : x = V.bl b := rx; rw [rx]; exact o _ _ (Same.refl H) rfl
    | int b => have rx : x = V.int b := rx; rw [rx]; exact o _ _ (Same.refl H) rfl
    | str b => have rx : x = V.str b := rx; rw [rx]; exact o _ _ (Same.refl H) rfl
    | tup ds => obtain ⟨a, _, e, _⟩ := rx; rw [e]; exact o _ _ (Same.refl H) rfl
    | lst ds => obtain ⟨a, _, e, _⟩ := rx; rw [e]; exact o _ _ (Same.refl H) rfl
    | obj c ds => obtain ⟨a, _, _, e, _⟩ := rx; rw [e]; exact o _ _ (Same.refl H) rfl
    | scr ds => obtain ⟨a, e, _⟩ := rx; rw [e]; exact o _ _ (Same.refl H) rfl
  | _ => cases dx <;> exact False.elim o
/-! ### == -/
mutual
theorem toPy_dp {G : Gx} {H : Hp} {Av : Addr → Prop} : ∀ (d : D) {v : V} {p : PyData}, RepB G H Av d v → toPy d = some p → Dp G.K H v p
  | .non, v, p, r, e => by cases e; have r : v = V.non := r; rw [r]; exact .non
  | .bl b, v, p, r, e => by cases e; have r : v = V.bl b := r; rw [r]; exact .bl b
  | .int b, v, p, r, e => by cases e; have r : v = V.int b := r; rw [r]; exact .int b
  | .str b, v, p, r, e => by cases e; have r : v = V.str b := r; rw [r]; exact .str b
  | .tup ds, v, p, r, e => by
    obtain ⟨a, vs, rfl, h1, h2⟩ := r
    rw [toPy] at e
    cases q : toPys ds with
    | none => rw [q] at e; cases e
    | some ps => rw [q] at e; cases e; exact .tup (tup_sq h1) (toPys_dp ds h2 q)
  | .lst ds, v, p, r, e => by
    obtain ⟨a, vs, rfl, h1, h2⟩ := r
    rw [toPy] at e
    cases q : toPys ds with
    | none => rw [q] at e; cases e
    | some ps => rw [q] at e; cases e; exact .lst (SqL.of h1) (toPys_dp ds h2 q)
  | .obj c ds, v, p, r, e => by rw [toPy] at e; cases e
  | .scr ds, v, p, r, e => by rw [toPy] at e; cases e
theorem toPys_dp {G : Gx} {H : Hp} {Av : Addr → Prop} : ∀ (ds : List D) {vs : List V} {ps : List PyData}, RepL G H Av ds vs → toPys ds = some ps → DpAll G.K H vs ps
  | [], vs, ps, r, e => by
    rw [toPys] at e; cases e
    have r : vs = [] := r
    rw [r]; exact .nil
  | d :: ds, vs, ps, r, e => by
    obtain ⟨v, vr, rfl, r1, r2⟩ := r
    rw [toPys] at e
    cases q : toPy d with
    | none => rw [q] at e; cases e
    | some p =>
      cases q2 : toPys ds with
      | none => rw [q, q2] at e; cases e
      | some ps' => rw [q, q2] at e; cases e; exact .cons (toPy_dp d r1.b q) (toPys_dp ds r2 q2)
end
theorem eq_core {σ : L2.St} {H : Hp} {Av : Addr → Prop} {dx dy : D} {x y : V} {P : Bool → Prop} (rx : RepB (gx X T) H Av dx x) (ry : RepB (gx X T) H Av dy y) (o : Out X T σ H (eqB dx dy) P) :
    (scal x y = true ∧ P (decide (x = y))) ∨ ∃ d e, Dp X.K H x d ∧ Dp X.K H y e ∧ SeqAt.shaped d = true ∧ SeqAt.shaped e = true ∧ P (PyData.eqv d e) := by
  have gen : ∀ {r : Res Bool}, r = (match toPy dx, toPy dy with
    | some p, some q => if SeqAt.shaped p && SeqAt.shaped q then .ok (PyData.eqv p q) else .bad
    | _, _ => .bad) → Out X T σ H r P → ∃ d e, Dp X.K H x d ∧ Dp X.K H y e ∧ SeqAt.shaped d = true ∧ SeqAt.shaped e = true ∧ P (PyData.eqv d e) := by
    intro r e o
    subst e
    cases q1 : toPy dx with
    | none => rw [q1] at o; exact False.elim o
    | some p =>
      cases q2 : toPy dy with
      | none => rw [q1, q2] at o; exact False.elim o
      | some q =>
        rw [q1, q2] at o
        have o : Out X T σ H (if (SeqAt.shaped p && SeqAt.shaped q) = true then .ok (PyData.eqv p q) else .bad) P := o
        obtain ⟨hc, f⟩ := o.if
        rw [Bool.and_eq_true] at hc
        exact ⟨p, q, toPy_dp (G := gx X T) dx rx q1, toPy_dp (G := gx X T) dy ry q2, hc.1, hc.2, f⟩
  cases dx <;> cases dy <;> first
    | exact .inr (gen rfl o)
    | (left
       have rx : x = _ := rx
       have ry : y = _ := ry
       rw [rx, ry]
       refine ⟨rfl, ?_⟩
       have o : P _ := o
       simpa using o)
theorem om_eq (hu : X.A.units + 64 < cLine) : OpM T X (compareOp .Eq) eqD := by
  refine ⟨_, (op_eq.or (op_eqD hu)), fun σ H Av dx dy x y Q hav rx ry o => ?_⟩
  rcases eq_core rx ry o.bind with ⟨h1, h2⟩ | ⟨d, e, h1, h2, h3, h4, h5⟩
  · exact .inl ⟨h1, h2 _ _ (Same.refl H) rfl⟩
  · exact .inr ⟨d, e, h1, h2, h3, h4, h5 _ _ (Same.refl H) rfl⟩
theorem om_ne (hu : X.A.units + 64 < cLine) : OpM T X (compareOp .NotEq) neD := by
  refine ⟨_, (op_ne.or (op_neD hu)), fun σ H Av dx dy x y Q hav rx ry o => ?_⟩
  rcases eq_core rx ry o.bind with ⟨h1, h2⟩ | ⟨d, e, h1, h2, h3, h4, h5⟩
  · exact .inl ⟨h1, h2 _ _ (Same.refl H) rfl⟩
  · exact .inr ⟨d, e, h1, h2, h3, h4, h5 _ _ (Same.refl H) rfl⟩
/-! ### in -/
theorem flatD_rep {G : Gx} {H : Hp} {Av : Addr → Prop} {d : D} {v w : V} (r : Rep G H Av d v) (e : flatD d = some w) : v = w ∧ flatV w = true := by
  cases d <;> first | (cases e; exact ⟨r, rfl⟩) | (exact nomatch e)
theorem flats_rep {G : Gx} {H : Hp} {Av : Addr → Prop} : ∀ {ds : List D} {vs ws : List V}, RepL G H Av ds vs → flats ds = some ws → vs = ws ∧ ws.all flatV = true
  | [], vs, ws, r, e => by cases e; exact ⟨r, rfl⟩
  | d :: ds, vs, ws, r, e => by
    obtain ⟨v, vr, rfl, r1, r2⟩ := r
    unfold flats at e
    cases q : flatD d with
    | none => rw [q] at e; cases e
    | some u =>
      cases q2 : flats ds with
      | none => rw [q, q2] at e; cases e
      | some us =>
        rw [q, q2] at e
        cases e
        obtain ⟨e1, f1⟩ := flatD_rep r1 q
        obtain ⟨e2, f2⟩ := flats_rep r2 q2
        rw [e1, e2]
        exact ⟨rfl, by rw [List.all_cons, f1, f2]; rfl⟩
theorem in_core {σ : L2.St} {H : Hp} {Av : Addr → Prop} {dx dy : D} {x y : V} {P : Bool → Prop} (rx : RepB (gx X T) H Av dx x) (ry : RepB (gx X T) H Av dy y) (o : Out X T σ H (inB dx dy) P) :
    (∃ p xs, y = .ref p ∧ (SqL X.K H p xs ∨ SqT X.K H p xs) ∧ flatV x = true ∧ xs.all flatV = true ∧ P (inV x xs)) ∨ ∃ i j, x = .str i ∧ y = .str j ∧ P (!(Builtin.Str.occurrences j i 0 j.length 1).isEmpty) := by
  have gen : ∀ {ys : List D} {vs : List V}, RepL (gx X T) H Av ys vs → Out X T σ H (match flatD dx, flats ys with
      | some v, some vs => .ok (inV v vs)
      | _, _ => .bad) P → flatV x = true ∧ vs.all flatV = true ∧ P (inV x vs) := by
    intro ys vs r o
    cases q : flatD dx with
    | none => rw [q] at o; exact False.elim o
    | some u =>
      cases q2 : flats ys with
      | none => rw [q, q2] at o; exact False.elim o
      | some us =>
        rw [q, q2] at o
        have rx' : Rep (gx X T) H Av dx x := by
          cases dx <;> first | exact rx | (exact nomatch q)
        obtain ⟨e1, f1⟩ := flatD_rep rx' q
        obtain ⟨e2, f2⟩ := flats_rep r q2
        rw [e1, e2]
        exact ⟨f1, f2, o⟩
  cases dy with
  | lst ys =>
    obtain ⟨a, vs, rfl, h1, h2⟩ := ry
    have o : Out X T σ H (match flatD dx, flats ys with
      | some v, some vs => .ok (inV v vs)
      | _, _ => .bad) P := by cases dx <;> exact o
    obtain ⟨f1, f2, f3⟩ := gen h2 o
    exact .inl ⟨a, vs, rfl, .inl (SqL.of h1), f1, f2, f3⟩
  | tup ys =>
    obtain ⟨a, vs, rfl, h1, h2⟩ := ry
    have o : Out X T σ H (match flatD dx, flats ys with
      | some v, some vs => .ok (inV v vs)
      | _, _ => .bad) P := by cases dx <;> exact o
    obtain ⟨f1, f2, f3⟩ := gen h2 o
    exact .inl ⟨a, vs, rfl, .inr (tup_sq h1), f1, f2, f3⟩
  | str j =>
    cases dx with
    | str i => exact .inr ⟨i, j, rx, ry, o⟩
    | _ => exact False.elim o
  | _ => cases dx <;> exact False.elim o
theorem om_in : OpM T X (compareOp .In) inD := by
  refine ⟨_, (op_in_seq.or op_in_str), fun σ H Av dx dy x y Q hav rx ry o => ?_⟩
  rcases in_core rx ry o.bind with ⟨p, xs, h1, h2, h3, h4, h5⟩ | ⟨i, j, h1, h2, h3⟩
  · exact .inl ⟨p, xs, h1, h2, h3, h4, h5 _ _ (Same.refl H) rfl⟩
  · exact .inr ⟨i, j, h1, h2, h3 _ _ (Same.refl H) rfl⟩
theorem om_notin : OpM T X (compareOp .NotIn) ninD := by
  refine ⟨_, (op_notIn_seq.or op_notIn_str), fun σ H Av dx dy x y Q hav rx ry o => ?_⟩
  rcases in_core rx ry o.bind with ⟨p, xs, h1, h2, h3, h4, h5⟩ | ⟨i, j, h1, h2, h3⟩
  · exact .inl ⟨p, xs, h1, h2, h3, h4, h5 _ _ (Same.refl H) rfl⟩
  · exact .inr ⟨i, j, h1, h2, h3 _ _ (Same.refl H) rfl⟩
end
end Cr
/-! Core, part 4: items, slices, built-ins, own defs, methods, instances. -/
namespace Cr
open PySem PySem.Spec PyProof.Rows L2
section
variable {T : CT} {Fb : Gh} {X : Cx} {e a b c : Expr} {es : List Expr} {m ma mb mc : Env → Res D} {pos : Pos}
/-! ### -x -/
def negD : D → Res D
  | .int i => .ok (.int (-i))
  | _ => .bad
def mUn (g : D → Res D) (ma : Env → Res D) : Env → Res D := fun ρ => ma ρ >>= g
theorem me_neg (ha : MB T Fb X a ma) : ME T Fb X (.UnaryOp .USub a pos) (mUn negD ma) := by
  refine ⟨fun σ H F ρ Q S o => (pe_un un_neg pe_tw).tw ?_⟩
  refine ha.run σ H F ρ _ S (o.bind.imp fun d _ o1 v H1 s r => ?_)
  cases d with
  | int i => exact ⟨i, r, o1 _ _ s rfl⟩
  | _ => exact False.elim o1
/-! ### items -/
def opt {α : Type} : Option α → Res α
  | some a => .ok a
  | none => .bad
def idxD : D → D → Res D
  | .lst xs, .int i => opt (atI xs i)
  | .tup xs, .int i => opt (atI xs i)
  | .scr ns, .int i => opt ((atI ns i).map .int)
  | .str z, .int i => if z.length ≤ sizeLine then opt ((atI z.cps.toList i).map fun c => .str ⟨#[c]⟩) else .bad
  | _, _ => .bad
theorem RepL.atI {G : Gx} {H : Hp} {Av : Addr → Prop} {ds : List D} {vs : List V} {i : Int} {d : D} (r : RepL G H Av ds vs) (h : L2.atI ds i = some d) : ∃ v, L2.atI vs i = some v ∧ Rep G H Av d v := by
  unfold L2.atI at h ⊢
  rw [r.length]
  cases q : ixN ds.length i with
  | none => rw [q] at h; cases h
  | some j =>
    rw [q] at h
    exact r.get (i := j) h
theorem atI_map {α β : Type} (f : α → β) (xs : List α) (i : Int) : L2.atI (xs.map f) i = (L2.atI xs i).map f := by
  unfold L2.atI
  rw [List.length_map]
  cases ixN xs.length i with
  | none => rfl
  | some j => show (xs.map f)[j]? = (xs[j]?).map f; rw [List.getElem?_map]
theorem scr_sq {G : Gx} {H : Hp} {Av : Addr → Prop} {a : Addr} {vs : List V} (h : (Rd H a (.lst vs) ∧ ¬ Av a) ∨ KLst G.K a vs) : SqL G.K H a vs := by
  rcases h with h | h
  · exact .inl h.1
  · exact .inr h
theorem Out.opt {α : Type} {σ : L2.St} {H : Hp} {x : Option α} {P : α → Prop} (h : Out X T σ H (Cr.opt x) P) : ∃ a, x = some a ∧ P a := by
  cases x with
  | none => exact False.elim h
  | some a => exact ⟨a, rfl, h⟩
theorem me_ix (ha : MB T Fb X a ma) (hb : MB T Fb X b mb) (hs : PlainIx b := by exact fun _ _ => rfl) : ME T Fb X (.Subscript a b pos) (mBin idxD ma mb) := by
  refine ⟨fun σ H F ρ Q S o => (pe_ix ix_seq pe_tw pe_tw hs).tw ?_⟩
  refine ha.run σ H F ρ _ S (o.bind.imp fun x _ o1 v H1 s1 r1 => ?_)
  refine hb.run σ H1 F ρ _ (S.same s1) ((o1.same s1).bind.imp fun y _ o2 u H2 s2 r2 => ?_)
  have r1 := r1.same s2
  have s12 := s1.trans s2
  cases y with
  | int i =>
    have r2 : u = V.int i := r2
    cases x with
    | lst xs =>
      obtain ⟨d, e, f⟩ := o2.opt
      obtain ⟨p, vs, rfl, h1, h2⟩ := r1
      obtain ⟨w, e2, r⟩ := h2.atI e
      exact .inl ⟨p, vs, i, w, rfl, r2, SqL.of h1, e2, f _ _ s12 r⟩
    | tup xs =>
      obtain ⟨d, e, f⟩ := o2.opt
      obtain ⟨p, vs, rfl, h1, h2⟩ := r1
      obtain ⟨w, e2, r⟩ := h2.atI e
      exact .inr (.inl ⟨p, vs, i, w, rfl, r2, tup_sq h1, e2, f _ _ s12 r⟩)
    | scr ns =>
      obtain ⟨d, e, f⟩ := o2.opt
      obtain ⟨p, rfl, h1⟩ := r1
      cases q : L2.atI ns i with
      | none => rw [q] at e; cases e
      | some n =>
        rw [q] at e; cases e
        exact .inl ⟨p, ns.map V.int, i, V.int n, rfl, r2, scr_sq h1, by rw [atI_map, q]; rfl, f _ _ s12 rfl⟩
    | str z =>
      obtain ⟨hz, o3⟩ : z.length ≤ sizeLine ∧ Out X T σ H1 (opt ((L2.atI z.cps.toList i).map fun c => D.str ⟨#[c]⟩)) _ := by
        have o2 : Out X T σ H1 (if z.length ≤ sizeLine then opt ((L2.atI z.cps.toList i).map fun c => D.str ⟨#[c]⟩) else .bad) _ := o2
        by_cases hz : z.length ≤ sizeLine
        · rw [if_pos hz] at o2; exact ⟨hz, o2⟩
        · rw [if_neg hz] at o2; exact False.elim o2
      obtain ⟨d, e, f⟩ := o3.opt
      cases q : L2.atI z.cps.toList i with
      | none => rw [q] at e; cases e
      | some n =>
        rw [q] at e; cases e
        have r1 : v = V.str z := r1
        exact .inr (.inr ⟨z, i, n, r1, r2, hz, q, f _ _ s12 rfl⟩)
    | _ => exact False.elim o2
  | _ => cases x <;> exact False.elim o2
/-! ### slices -/
structure MO (T : CT) (Fb : Gh) (X : Cx) (e : Option Expr) (m : Env → Res (Option Int)) : Prop where
  ex : ∃ t : TO, PO X e t ∧ ∀ (σ : L2.St) (H : Hp) (F : List Addr) (ρ : Env) (Q : Option Int → Hp → Prop), StR (gx X T) Fb H σ ρ F →
    Out X T σ H (m ρ) (fun o => ∀ H', Same H H' → Q o H') → t σ H Q
def mNo : Env → Res (Option Int) := fun _ => .ok none
def intO : D → Res (Option Int)
  | .int i => .ok (some i)
  | _ => .bad
def mPart (m : Env → Res D) : Env → Res (Option Int) := fun ρ => m ρ >>= intO
theorem mo_none : MO T Fb X none mNo := ⟨_, po_none, fun σ H F ρ Q S o => o H (Same.refl H)⟩
theorem mo_some (h : MB T Fb X e m) : MO T Fb X (some e) (mPart m) := by
  refine ⟨_, po_some pe_tw, fun σ H F ρ Q S o => ?_⟩
  refine h.run σ H F ρ _ S (o.bind.imp fun d _ o1 v H1 s r => ?_)
  cases d with
  | int i => exact ⟨i, r, o1 _ s⟩
  | _ => exact False.elim o1
def cutG {α : Type} (xs : List α) (lo hi : Option Int) : List α := (xs.drop (HT.sIx xs.length 0 lo)).take (HT.sIx xs.length xs.length hi - HT.sIx xs.length 0 lo)
theorem RepL.cut {G : Gx} {H : Hp} {Av : Addr → Prop} {ds : List D} {vs : List V} (r : RepL G H Av ds vs) (lo hi : Option Int) : RepL G H Av (cutG ds lo hi) (cutV vs lo hi) := by
  unfold cutG cutV
  rw [r.length]
  exact (r.drop _).take _
def cutL : D → Option Int → Option Int → Res (List D)
  | .lst xs, lo, hi => .ok (cutG xs lo hi)
  | _, _, _ => .bad
def cutD : D → Option Int → Option Int → Res D
  | .lst xs, lo, hi => .ok (.lst (cutG xs lo hi))
  | .tup xs, lo, hi => if ¬ (HT.sIx xs.length 0 lo = 0 ∧ HT.sIx xs.length xs.length hi = xs.length) then .ok (.tup (cutG xs lo hi)) else .bad
  | .str z, lo, hi => if z.length ≤ sizeLine then .ok (.str (cutS z lo hi)) else .bad
  | _, _, _ => .bad
def mSl {α : Type} (g : D → Option Int → Option Int → Res α) (ma : Env → Res D) (ml mh : Env → Res (Option Int)) : Env → Res α := fun ρ => ma ρ >>= fun x => ml ρ >>= fun l => mh ρ >>= fun h => g x l h
variable {lo hi : Option Expr} {ml mh : Env → Res (Option Int)} {p2 : Pos}
theorem mf_slice (ha : MB T Fb X a ma) (hl : MO T Fb X lo ml) (hh : MO T Fb X hi mh) : MF T Fb X (.Subscript a (.Slice lo hi none p2) pos) (mSl cutL ma ml mh) := by
  obtain ⟨tl, pl, fl⟩ := hl.ex
  obtain ⟨th, ph, fh⟩ := hh.ex
  refine ⟨fun σ H F ρ Q S o => (pe_slice sl_list pe_tw pl ph).tw ?_⟩
  refine ha.run σ H F ρ _ S (o.bind.imp fun x _ o1 v H1 s1 r1 => ?_)
  refine fl σ H1 F ρ _ (S.same s1) ((o1.same s1).bind.imp fun l _ o2 H2 s2 => ?_)
  refine fh σ H2 F ρ _ ((S.same s1).same s2) ((o2.same s2).bind.imp fun h _ o3 H3 s3 => ?_)
  cases x with
  | lst xs =>
    obtain ⟨p, vs, rfl, h1, h2⟩ := (r1.same s2).same s3
    refine ⟨p, vs, rfl, SqL.of h1, fun q hq => ?_⟩
    have s := same_upd (o := .lst (cutV vs l h)) hq
    exact o3 q _ _ ((s1.trans (s2.trans s3)).free hq) ((s1.trans (s2.trans s3)).trans s) upd_same ((h2.cut l h).new hq)
  | _ => exact False.elim o3
theorem me_slice (ha : MB T Fb X a ma) (hl : MO T Fb X lo ml) (hh : MO T Fb X hi mh) : ME T Fb X (.Subscript a (.Slice lo hi none p2) pos) (mSl cutD ma ml mh) := by
  obtain ⟨tl, pl, fl⟩ := hl.ex
  obtain ⟨th, ph, fh⟩ := hh.ex
  refine ⟨fun σ H F ρ Q S o => (pe_slice (sl_list.or (sl_tup.or sl_str)) pe_tw pl ph).tw ?_⟩
  refine ha.run σ H F ρ _ S (o.bind.imp fun x _ o1 v H1 s1 r1 => ?_)
  refine fl σ H1 F ρ _ (S.same s1) ((o1.same s1).bind.imp fun l _ o2 H2 s2 => ?_)
  refine fh σ H2 F ρ _ ((S.same s1).same s2) ((o2.same s2).bind.imp fun h _ o3 H3 s3 => ?_)
  have S3 := ((S.same s1).same s2).same s3
  have s := s1.trans (s2.trans s3)
  have r1 := (r1.same s2).same s3
  cases x with
  | lst xs =>
    obtain ⟨p, vs, rfl, h1, h2⟩ := r1
    refine .inl ⟨p, vs, rfl, SqL.of h1, fun q hq => ?_⟩
    have s' := same_upd (o := .lst (cutV vs l h)) hq
    exact o3 _ _ (s.trans s') ⟨q, _, rfl, ⟨upd_same, avo_no S3.av hq⟩, (h2.cut l h).same s'⟩
  | tup xs =>
    obtain ⟨hc, f⟩ := o3.if
    obtain ⟨p, vs, rfl, h1, h2⟩ := r1
    refine .inr (.inl ⟨p, vs, rfl, tup_sq h1, by rw [h2.length]; exact hc, fun q hq => ?_⟩)
    have s' := same_upd (o := .tup (cutV vs l h)) hq
    exact f _ _ (s.trans s') ⟨q, _, rfl, .inl ⟨upd_same, avo_no S3.av hq⟩, (h2.cut l h).same s'⟩
  | str z =>
    obtain ⟨hc, f⟩ := o3.if
    have r1 : v = V.str z := r1
    exact .inr (.inr ⟨z, r1, hc, f _ _ s rfl⟩)
  | _ => exact False.elim o3
def revL : D → Res (List D)
  | .lst xs => .ok xs.reverse
  | _ => .bad
def mUnF (g : D → Res (List D)) (ma : Env → Res D) : Env → Res (List D) := fun ρ => ma ρ >>= g
theorem mf_rev {k : Nat} {p1 p2 p3 : Pos} (ha : MB T Fb X a ma) : MF T Fb X (.Subscript a (.Slice none none (some (.UnaryOp .USub (.Constant (.int 1) k p1) p2)) p3) pos) (mUnF revL ma) := by
  refine ⟨fun σ H F ρ Q S o => (pe_revL pe_tw).tw ?_⟩
  refine ha.run σ H F ρ _ S (o.bind.imp fun x _ o1 v H1 s1 r1 => ?_)
  cases x with
  | lst xs =>
    obtain ⟨p, vs, rfl, h1, h2⟩ := r1
    refine ⟨p, vs, rfl, SqL.of h1, fun q hq => ?_⟩
    have s := same_upd (o := .lst vs.reverse) hq
    exact o1 q _ _ (s1.free hq) (s1.trans s) upd_same (h2.reverse.new hq)
  | _ => exact False.elim o1
/-! ### built-ins by values -/
structure CallM (T : CT) (X : Cx) (f : Value) (g : List D → Res D) : Prop where
  ex : ∃ r : List V → Hp → VK → Prop, CallR X f r ∧ ∀ (σ : L2.St) (H : Hp) (Av : Addr → Prop) (ds : List D) (vs : List V) (Q : VK), (∀ a, Av a → H a ≠ none) → Paired (RepB (gx X T) H Av) ds vs →
    Out X T σ H (g ds) (fun d => ∀ v H', Same H H' → Rep (gx X T) H' Av d v → Q v H') → r vs H Q
structure CallF (T : CT) (X : Cx) (f : Value) (g : List D → Res (List D)) : Prop where
  ex : ∃ r : List V → Hp → VK → Prop, CallR X f r ∧ ∀ (σ : L2.St) (H : Hp) (Av : Addr → Prop) (ds : List D) (vs : List V) (Q : VK), (∀ a, Av a → H a ≠ none) → Paired (RepB (gx X T) H Av) ds vs →
    Out X T σ H (g ds) (fun xs => ∀ p vs H', H p = none → Same H H' → H' p = some (.lst vs) → RepL (gx X T) H' (fun a => a = p ∨ Av a) xs vs → Q (.ref p) H') → r vs H Q
def mArg {α : Type} (g : List D → Res α) (m : Env → Res (List D)) : Env → Res α := fun ρ => m ρ >>= g
variable {x : Str} {p : Pos} {bid ty : String}
theorem me_bi {g : List D → Res D} {mr : Env → Res (List D)} (hf : CallM T X (.builtin bid) g) (hm : X.mg x = none) (hv : bootBuiltins x = some (.builtin bid)) (ha : MLb T Fb X (e :: es) mr) (hg : Gl X x := by rfl) (hn : x ≠ "__name__" := by decide) (hdb : (x == ("__debug__" : Str)) = false := by decide)
    (he : starEach (e :: es) X.env = (false, eval e X.env) :: starEach es X.env := by rfl) (hpl : (backTo pos (starEach es X.env)).any (·.1) = false := by rfl) : ME T Fb X (.Call (.Name x p) (e :: es) [] pos) (mArg g mr) := by
  obtain ⟨r, hr, f⟩ := hf.ex
  refine ⟨fun σ H F ρ Q S o => (pe_callB hr hg hm hv pa_tw hn hdb he hpl).tw ?_⟩
  refine ha.run σ H F ρ _ S (o.bind.imp fun ds _ o1 vs H1 s1 r1 => ?_)
  exact f σ H1 (avo Fb F) ds vs Q (S.same s1).av r1 ((o1.same s1).imp fun d _ f v H2 s2 r2 => f v H2 (s1.trans s2) r2)
theorem me_bty {g : List D → Res D} {mr : Env → Res (List D)} (hf : CallM T X (.type ty) g) (hm : X.mg x = none) (hv : bootBuiltins x = some (.type ty)) (ha : MLb T Fb X (e :: es) mr) (hg : Gl X x := by rfl) (hn : x ≠ "__name__" := by decide) (hdb : (x == ("__debug__" : Str)) = false := by decide)
    (he : starEach (e :: es) X.env = (false, eval e X.env) :: starEach es X.env := by rfl) (hpl : (backTo pos (starEach es X.env)).any (·.1) = false := by rfl) : ME T Fb X (.Call (.Name x p) (e :: es) [] pos) (mArg g mr) := by
  obtain ⟨r, hr, f⟩ := hf.ex
  refine ⟨fun σ H F ρ Q S o => (pe_callTy hr hg hm hv pa_tw hn hdb he hpl).tw ?_⟩
  refine ha.run σ H F ρ _ S (o.bind.imp fun ds _ o1 vs H1 s1 r1 => ?_)
  exact f σ H1 (avo Fb F) ds vs Q (S.same s1).av r1 ((o1.same s1).imp fun d _ f v H2 s2 r2 => f v H2 (s1.trans s2) r2)
theorem mf_bty {g : List D → Res (List D)} {mr : Env → Res (List D)} (hf : CallF T X (.type ty) g) (hm : X.mg x = none) (hv : bootBuiltins x = some (.type ty)) (ha : MLb T Fb X (e :: es) mr) (hg : Gl X x := by rfl) (hn : x ≠ "__name__" := by decide) (hdb : (x == ("__debug__" : Str)) = false := by decide)
    (he : starEach (e :: es) X.env = (false, eval e X.env) :: starEach es X.env := by rfl) (hpl : (backTo pos (starEach es X.env)).any (·.1) = false := by rfl) : MF T Fb X (.Call (.Name x p) (e :: es) [] pos) (mArg g mr) := by
  obtain ⟨r, hr, f⟩ := hf.ex
  refine ⟨fun σ H F ρ Q S o => (pe_callTy hr hg hm hv pa_tw hn hdb he hpl).tw ?_⟩
  refine ha.run σ H F ρ _ S (o.bind.imp fun ds _ o1 vs H1 s1 r1 => ?_)
  exact f σ H1 (avo Fb F) ds vs Q (S.same s1).av r1 ((o1.same s1).imp fun d _ f p vs H2 n s2 r2 => f p vs H2 (s1.free n) (s1.trans s2) r2)
theorem paired1 {α β : Type} {R : α → β → Prop} {x : α} {vs : List β} (h : Paired R [x] vs) : ∃ v, vs = [v] ∧ R x v := by
  cases h with
  | cons r t => cases t; exact ⟨_, rfl, r⟩
theorem paired2 {α β : Type} {R : α → β → Prop} {x y : α} {vs : List β} (h : Paired R [x, y] vs) : ∃ v w, vs = [v, w] ∧ R x v ∧ R y w := by
  cases h with
  | cons r t =>
    obtain ⟨w, rfl, r2⟩ := paired1 t
    exact ⟨_, w, rfl, r, r2⟩
def lenD : List D → Res D
  | [.lst xs] => .ok (.int xs.length)
  | [.tup xs] => .ok (.int xs.length)
  | [.scr xs] => .ok (.int xs.length)
  | [.str z] => if z.length ≤ sizeLine then .ok (.int z.length) else .bad
  | _ => .bad
theorem cm_len : CallM T X (.builtin "len") lenD := by
  refine ⟨_, call_len_seq.or call_len_str, fun σ H Av ds vs Q hav r o => ?_⟩
  match ds, o with
  | [.lst xs], o =>
    obtain ⟨v, rfl, a, ws, rfl, h1, h2⟩ := paired1 r
    exact .inl ⟨a, ws, rfl, .inl (SqL.of h1), by rw [h2.length]; exact o _ _ (Same.refl H) rfl⟩
  | [.tup xs], o =>
    obtain ⟨v, rfl, a, ws, rfl, h1, h2⟩ := paired1 r
    exact .inl ⟨a, ws, rfl, .inr (tup_sq h1), by rw [h2.length]; exact o _ _ (Same.refl H) rfl⟩
  | [.scr xs], o =>
    obtain ⟨v, rfl, a, rfl, h1⟩ := paired1 r
    exact .inl ⟨a, _, rfl, .inl (scr_sq h1), by rw [List.length_map]; exact o _ _ (Same.refl H) rfl⟩
  | [.str z], o =>
    obtain ⟨hz, f⟩ := o.if
    obtain ⟨v, rfl, h1⟩ := paired1 r
    have h1 : v = V.str z := h1
    exact .inr ⟨z, by rw [h1], hz, f _ _ (Same.refl H) rfl⟩
def absD : List D → Res D
  | [.int i] => .ok (.int (if i < 0 then -i else i))
  | _ => .bad
theorem cm_abs : CallM T X (.builtin "abs") absD := by
  refine ⟨_, call_abs, fun σ H Av ds vs Q hav r o => ?_⟩
  match ds, o with
  | [.int i], o =>
    obtain ⟨v, rfl, h1⟩ := paired1 r
    have h1 : v = V.int i := h1
    exact ⟨i, by rw [h1], o _ _ (Same.refl H) rfl⟩
def max2D : List D → Res D
  | [.int i, .int j] => .ok (.int (max i j))
  | _ => .bad
def min2D : List D → Res D
  | [.int i, .int j] => .ok (.int (min i j))
  | _ => .bad
theorem cm_max2 (hc : X.calm = true) : CallM T X (.builtin "max") max2D := by
  refine ⟨_, call_max2 hc, fun σ H Av ds vs Q hav r o => ?_⟩
  match ds, o with
  | [.int i, .int j], o =>
    obtain ⟨v, w, rfl, h1, h2⟩ := paired2 r
    have h1 : v = V.int i := h1
    have h2 : w = V.int j := h2
    refine ⟨i, j, by rw [h1, h2], ?_⟩
    have e : (if j > i then j else i) = max i j := by split <;> omega
    rw [e]
    exact o _ _ (Same.refl H) rfl
theorem cm_min2 (hc : X.calm = true) : CallM T X (.builtin "min") min2D := by
  refine ⟨_, call_min2 hc, fun σ H Av ds vs Q hav r o => ?_⟩
  match ds, o with
  | [.int i, .int j], o =>
    obtain ⟨v, w, rfl, h1, h2⟩ := paired2 r
    have h1 : v = V.int i := h1
    have h2 : w = V.int j := h2
    refine ⟨i, j, by rw [h1, h2], ?_⟩
    have e : (if j < i then j else i) = min i j := by split <;> omega
    rw [e]
    exact o _ _ (Same.refl H) rfl
def intD : List D → Res D
  | [.int i] => .ok (.int i)
  | [.bl k] => .ok (.int (if k then 1 else 0))
  | _ => .bad
theorem cm_int : CallM T X (.type "int") intD := by
  refine ⟨_, call_int1, fun σ H Av ds vs Q hav r o => ?_⟩
  match ds, o with
  | [.int i], o =>
    obtain ⟨v, rfl, h1⟩ := paired1 r
    have h1 : v = V.int i := h1
    exact .inl ⟨i, by rw [h1], o _ _ (Same.refl H) rfl⟩
  | [.bl i], o =>
    obtain ⟨v, rfl, h1⟩ := paired1 r
    have h1 : v = V.bl i := h1
    exact .inr ⟨i, by rw [h1], o _ _ (Same.refl H) rfl⟩
def tupD : List D → Res D
  | [.lst xs] => .ok (.tup xs)
  | [.tup xs] => .ok (.tup xs)
  | _ => .bad
theorem cm_tup : CallM T X (.type "tuple") tupD := by
  refine ⟨_, call_tuple_of, fun σ H Av ds vs Q hav r o => ?_⟩
  match ds, o with
  | [.lst xs], o =>
    obtain ⟨v, rfl, a, ws, rfl, h1, h2⟩ := paired1 r
    refine ⟨a, ws, rfl, .inl ⟨SqL.of h1, fun l hl => ?_⟩⟩
    have s := same_upd (o := .tup ws) hl
    exact o _ _ s ⟨l, ws, rfl, .inl ⟨upd_same, fun z => absurd hl (hav l z)⟩, h2.same s⟩
  | [.tup xs], o =>
    obtain ⟨v, rfl, a, ws, rfl, h1, h2⟩ := paired1 r
    exact ⟨a, ws, rfl, .inr ⟨tup_sq h1, o _ _ (Same.refl H) ⟨a, ws, rfl, h1, h2⟩⟩⟩
def listD : List D → Res (List D)
  | [.lst xs] => .ok xs
  | [.tup xs] => .ok xs
  | _ => .bad
theorem cf_list : CallF T X (.type "list") listD := by
  refine ⟨_, call_list_of, fun σ H Av ds vs Q hav r o => ?_⟩
  match ds, o with
  | [.lst xs], o =>
    obtain ⟨v, rfl, a, ws, rfl, h1, h2⟩ := paired1 r
    refine ⟨a, ws, rfl, .inl (SqL.of h1), fun l hl => ?_⟩
    have s := same_upd (o := .lst ws) hl
    exact o l ws _ hl s upd_same (h2.new hl)
  | [.tup xs], o =>
    obtain ⟨v, rfl, a, ws, rfl, h1, h2⟩ := paired1 r
    refine ⟨a, ws, rfl, .inr (tup_sq h1), fun l hl => ?_⟩
    have s := same_upd (o := .lst ws) hl
    exact o l ws _ hl s upd_same (h2.new hl)
/-- lists of whole numbers, of truths -/
def intsOf : List D → Option (List Int)
  | [] => some []
  | .int i :: ds => (intsOf ds).map (i :: ·)
  | _ => none
def boolsOf : List D → Option (List Bool)
  | [] => some []
  | .bl i :: ds => (boolsOf ds).map (i :: ·)
  | _ => none
theorem ints_rep {G : Gx} {H : Hp} {Av : Addr → Prop} : ∀ {ds : List D} {vs : List V} {ns : List Int}, RepL G H Av ds vs → intsOf ds = some ns → vs = ns.map V.int := by
  intro ds
  induction ds with
  | nil => intro vs ns r e; cases e; exact r
  | cons d ds ih =>
    intro vs ns r e
    obtain ⟨v, vr, rfl, r1, r2⟩ := r
    cases d with
    | int i =>
      have e : (intsOf ds).map (i :: ·) = some ns := e
      cases q : intsOf ds with
      | none => rw [q] at e; cases e
      | some ms =>
        rw [q] at e; cases e
        have r1 : v = V.int i := r1
        rw [r1, ih r2 q]; rfl
    | _ => exact nomatch (show (none : Option (List Int)) = some ns from e)
theorem bools_rep {G : Gx} {H : Hp} {Av : Addr → Prop} : ∀ {ds : List D} {vs : List V} {ns : List Bool}, RepL G H Av ds vs → boolsOf ds = some ns → vs = ns.map V.bl := by
  intro ds
  induction ds with
  | nil => intro vs ns r e; cases e; exact r
  | cons d ds ih =>
    intro vs ns r e
    obtain ⟨v, vr, rfl, r1, r2⟩ := r
    cases d with
    | bl i =>
      have e : (boolsOf ds).map (i :: ·) = some ns := e
      cases q : boolsOf ds with
      | none => rw [q] at e; cases e
      | some ms =>
        rw [q] at e; cases e
        have r1 : v = V.bl i := r1
        rw [r1, ih r2 q]; rfl
    | _ => exact nomatch (show (none : Option (List Bool)) = some ns from e)
def sumD : List D → Res D
  | [.lst xs] => opt (intsOf xs) >>= fun ns => .ok (.int ns.sum)
  | _ => .bad
theorem cm_sum (hc : X.calm = true) : CallM T X (.builtin "sum") sumD := by
  refine ⟨_, cr_sum hc, fun σ H Av ds vs Q hav r o => ?_⟩
  match ds, o with
  | [.lst xs], o =>
    obtain ⟨ns, e, f⟩ := o.bind.opt
    obtain ⟨v, rfl, a, ws, rfl, h1, h2⟩ := paired1 r
    rw [ints_rep h2 e] at h1
    exact ⟨a, ns, rfl, SqL.of h1, f _ _ (Same.refl H) rfl⟩
def allD : List D → Res D
  | [.lst xs] => opt (boolsOf xs) >>= fun ns => .ok (.bl (ns.all id))
  | _ => .bad
theorem cm_all (hc : X.calm = true) : CallM T X (.builtin "all") allD := by
  refine ⟨_, cr_all hc, fun σ H Av ds vs Q hav r o => ?_⟩
  match ds, o with
  | [.lst xs], o =>
    obtain ⟨ns, e, f⟩ := o.bind.opt
    obtain ⟨v, rfl, a, ws, rfl, h1, h2⟩ := paired1 r
    rw [bools_rep h2 e] at h1
    exact ⟨a, ns, rfl, SqL.of h1, f _ _ (Same.refl H) rfl⟩
def anyD : List D → Res D
  | [.lst xs] => opt (boolsOf xs) >>= fun ns => .ok (.bl (ns.any id))
  | _ => .bad
theorem cm_any (hc : X.calm = true) : CallM T X (.builtin "any") anyD := by
  refine ⟨_, cr_any hc, fun σ H Av ds vs Q hav r o => ?_⟩
  match ds, o with
  | [.lst xs], o =>
    obtain ⟨ns, e, f⟩ := o.bind.opt
    obtain ⟨v, rfl, a, ws, rfl, h1, h2⟩ := paired1 r
    rw [bools_rep h2 e] at h1
    exact ⟨a, ns, rfl, SqL.of h1, f _ _ (Same.refl H) rfl⟩
def listMax : List Int → Int
  | [] => 0
  | [a] => a
  | a :: as => max a (listMax as)
def listMin : List Int → Int
  | [] => 0
  | [a] => a
  | a :: as => min a (listMin as)
theorem listMax_eq : ∀ {ns : List Int} {m : Int}, m ∈ ns → (∀ y ∈ ns, y ≤ m) → m = listMax ns
  | [a], m, h, _ => by rw [List.mem_singleton.mp h]; rfl
  | a :: b :: r, m, h, f => by
    rw [listMax]
    · rcases List.mem_cons.mp h with e | h
      · have q : ∀ {l : List Int}, l ≠ [] → listMax l ∈ l := by
          intro l
          induction l with
          | nil => intro z; exact absurd rfl z
          | cons x xs ih =>
            intro _
            cases xs with
            | nil => exact List.mem_singleton.mpr rfl
            | cons y ys =>
              have ih := ih (by simp)
              have : listMax (x :: y :: ys) = max x (listMax (y :: ys)) := rfl
              rw [this]
              by_cases hx : x ≤ listMax (y :: ys)
              · rw [Int.max_eq_right hx]; exact List.mem_cons_of_mem _ ih
              · rw [Int.max_eq_left (by omega)]; exact List.mem_cons_self
        have := f _ (List.mem_cons_of_mem a (q (l := b :: r) (by simp)))
        omega
      · have e := listMax_eq h (fun y hy => f y (List.mem_cons_of_mem _ hy))
        have := f a List.mem_cons_self
        omega
    · simp
theorem listMin_eq : ∀ {ns : List Int} {m : Int}, m ∈ ns → (∀ y ∈ ns, m ≤ y) → m = listMin ns
  | [a], m, h, _ => by rw [List.mem_singleton.mp h]; rfl
  | a :: b :: r, m, h, f => by
    rw [listMin]
    · rcases List.mem_cons.mp h with e | h
      · have q : ∀ {l : List Int}, l ≠ [] → listMin l ∈ l := by
          intro l
          induction l with
          | nil => intro z; exact absurd rfl z
          | cons x xs ih =>
            intro _
            cases xs with
            | nil => exact List.mem_singleton.mpr rfl
            | cons y ys =>
              have ih := ih (by simp)
              have : listMin (x :: y :: ys) = min x (listMin (y :: ys)) := rfl
              rw [this]
              by_cases hx : x ≤ listMin (y :: ys)
              · rw [Int.min_eq_left hx]; exact List.mem_cons_self
              · rw [Int.min_eq_right (by omega)]; exact List.mem_cons_of_mem _ ih
        have := f _ (List.mem_cons_of_mem a (q (l := b :: r) (by simp)))
        omega
      · have e := listMin_eq h (fun y hy => f y (List.mem_cons_of_mem _ hy))
        have := f a List.mem_cons_self
        omega
    · simp
def maxD : List D → Res D
  | [.lst xs] => opt (intsOf xs) >>= fun ns => if 0 < ns.length then .ok (.int (listMax ns)) else .bad
  | _ => .bad
def minD : List D → Res D
  | [.lst xs] => opt (intsOf xs) >>= fun ns => if 0 < ns.length then .ok (.int (listMin ns)) else .bad
  | _ => .bad
theorem cm_max (hc : X.calm = true) : CallM T X (.builtin "max") maxD := by
  refine ⟨_, cr_max hc, fun σ H Av ds vs Q hav r o => ?_⟩
  match ds, o with
  | [.lst xs], o =>
    obtain ⟨ns, e, f⟩ := o.bind.opt
    obtain ⟨hn, f⟩ := Out.if f
    obtain ⟨v, rfl, a, ws, rfl, h1, h2⟩ := paired1 r
    rw [ints_rep h2 e] at h1
    exact ⟨a, ns, rfl, SqL.of h1, hn, fun m hm hy => by rw [listMax_eq hm hy]; exact f _ _ (Same.refl H) rfl⟩
theorem cm_min (hc : X.calm = true) : CallM T X (.builtin "min") minD := by
  refine ⟨_, cr_min hc, fun σ H Av ds vs Q hav r o => ?_⟩
  match ds, o with
  | [.lst xs], o =>
    obtain ⟨ns, e, f⟩ := o.bind.opt
    obtain ⟨hn, f⟩ := Out.if f
    obtain ⟨v, rfl, a, ws, rfl, h1, h2⟩ := paired1 r
    rw [ints_rep h2 e] at h1
    exact ⟨a, ns, rfl, SqL.of h1, hn, fun m hm hy => by rw [listMin_eq hm hy]; exact f _ _ (Same.refl H) rfl⟩
end
end Cr
/-! Core, part 4b: isinstance. -/
namespace Cr
open PySem PySem.Spec PyProof.Rows L2
section
variable {T : CT} {Fb : Gh} {X : Cx} {e a b c : Expr} {es : List Expr} {m ma mb mc : Env → Res D} {pos : Pos} {p : Pos}
/-! ### isinstance -/
inductive Ty where
  | bool | int | str | list | tuple
def Ty.nm : Ty → String
  | .bool => "bool"
  | .int => "int"
  | .str => "str"
  | .list => "list"
  | .tuple => "tuple"
def isiD : Ty → D → Res D
  | _, .obj _ _ => .bad
  | .bool, .bl _ => .ok (.bl true)
  | .int, .bl _ => .ok (.bl true)
  | .int, .int _ => .ok (.bl true)
  | .str, .str _ => .ok (.bl true)
  | .list, .lst _ => .ok (.bl true)
  | .list, .scr _ => .bad
  | _, .scr _ => .bad
  | .tuple, .tup _ => .ok (.bl true)
  | _, _ => .ok (.bl false)
theorem tyx_of {G : Gx} {H : Hp} {Av : Addr → Prop} {d : D} {v : V} (t : Ty) {k : D} (r : RepB G H Av d v) (h : isiD t d = .ok k) : ∃ n b, TyX G.K H v (.type n) ∧ kitB n t.nm = some b ∧ k = .bl b := by
  cases d with
  | non => have r : v = V.non := r; rw [r]; cases t <;> cases h <;> exact ⟨"NoneType", _, .base .non, by decide +kernel, rfl⟩
  | bl x => have r : v = V.bl x := r; rw [r]; cases t <;> cases h <;> exact ⟨"bool", _, .base (.bl x), by decide +kernel, rfl⟩
  | int x => have r : v = V.int x := r; rw [r]; cases t <;> cases h <;> exact ⟨"int", _, .base (.int x), by decide +kernel, rfl⟩
  | str x => have r : v = V.str x := r; rw [r]; cases t <;> cases h <;> exact ⟨"str", _, .base (.str x), by decide +kernel, rfl⟩
  | lst xs => obtain ⟨a, vs, rfl, h1, _⟩ := r; cases t <;> cases h <;> exact ⟨"list", _, .base (.lst h1), by decide +kernel, rfl⟩
  | tup xs =>
    obtain ⟨a, vs, rfl, h1, _⟩ := r
    have ty : TyX G.K H (.ref a) (.type "tuple") := by
      rcases h1 with h1 | ⟨o, its, n, hk, hc, _⟩
      · exact .base (.tup h1.1)
      · exact .kTuple hk hc
    cases t <;> cases h <;> exact ⟨"tuple", _, ty, by decide +kernel, rfl⟩
  | obj c xs => cases t <;> cases h
  | scr xs => cases t <;> cases h
theorem me_isi (t : Ty) {pn : Pos} (hm : X.mg "isinstance" = none) (ht : X.mg (Str.ofString t.nm) = none) (hv : bootBuiltins (Str.ofString t.nm) = some (.type t.nm)) (ha : MB T Fb X a ma) (hg : Gl X "isinstance" := by rfl) (hgt : Gl X (Str.ofString t.nm) := by rfl)
    (hn : (Str.ofString t.nm) ≠ "__name__" := by decide) (hdb : ((Str.ofString t.nm) == ("__debug__" : Str)) = false := by decide) (hs : starEach [a, .Name (Str.ofString t.nm) pn] X.env = (false, eval a X.env) :: starEach [.Name (Str.ofString t.nm) pn] X.env := by rfl)
    (hs2 : starEach [.Name (Str.ofString t.nm) pn] X.env = (false, eval (.Name (Str.ofString t.nm) pn) X.env) :: starEach [] X.env := by rfl) (hpl : (backTo pos (starEach [.Name (Str.ofString t.nm) pn] X.env)).any (·.1) = false := by rfl) :
    ME T Fb X (.Call (.Name "isinstance" p) [a, .Name (Str.ofString t.nm) pn] [] pos) (mUn (isiD t) ma) := by
  have pt : PE X (.Name (Str.ofString t.nm) pn) (tC (.ty t.nm)) := pe_bltn (v := V.ty t.nm) hgt ht hv rfl hn hdb
  refine ⟨fun σ H F ρ Q S o => (pe_callB call_isi hg hm (by decide +kernel) (pa_cons pe_tw (pa_cons pt pa_nil hs2) hs) (he := hs) (hpl := hpl)).tw ?_⟩
  refine ha.run σ H F ρ _ S (o.bind.imp fun d _ o1 v H1 s r => ?_)
  cases q : isiD t d with
  | bad => rw [q] at o1; exact False.elim o1
  | err z => cases d <;> cases t <;> cases q
  | ok k =>
    rw [q] at o1
    obtain ⟨n, b, h1, h2, rfl⟩ := tyx_of t r q
    exact ⟨v, V.ty t.nm, _, _, b, rfl, .ty _, h1, kit_ty h2, o1 _ _ s rfl⟩
end
end Cr
/-! Core, part 5: calls of own defs, methods, instances, fields. -/
namespace Cr
open PySem PySem.Spec PyProof.Rows L2
/-! ### the promise of a def by its mirror -/
def spD (K : PySem.W.Frag) (T : CT) (n : Nat) (m : List D → Res D) : Sp := fun vs H Q E => vs.length = n ∧ ∃ (Av : Addr → Prop) (ds : List D), (∀ a, Av a → H a ≠ none) ∧ RepL ⟨K, T⟩ H Av ds vs ∧ match m ds with
  | .ok d => ∀ v H', Same H H' → Rep ⟨K, T⟩ H' Av d v → Q v H'
  | .err x => ∀ cls d H', Same H H' → ExcRep ⟨K, T⟩ H' x cls d → E cls d H'
  | .bad => False
/-- .. of an __init__ of the class c: the fields -/
def spI (K : PySem.W.Frag) (T : CT) (c n : Nat) (m : List D → Res (List D)) : Sp := fun vs H Q E => vs.length = n + 1 ∧ ∃ (Av : Addr → Prop) (ds : List D) (x dx : Addr) (vr : List V), vs = .ref x :: vr ∧ (∀ a, Av a → H a ≠ none) ∧ ¬ Av x ∧
  H x = some (.ins (T.addr c) dx []) ∧ RepL ⟨K, T⟩ H (fun a => a = x ∨ Av a) ds vr ∧ match m ds with
  | .ok fs => ∀ H', (∀ a o, H a = some o → a ≠ x → H' a = some o) → Rep ⟨K, T⟩ H' Av (.obj c fs) (.ref x) → Q .non H'
  | .err z => ∀ cls d H', (∀ a o, H a = some o → a ≠ x → H' a = some o) → ExcRep ⟨K, T⟩ H' z cls d → E cls d H'
  | .bad => False
section
variable (P : Program) (w : World) (K : PySem.W.Frag) (mg : Str → Option Value) (base : Heap) (T : CT)
/-- a def of the module by its name -/
structure FnAt (k : Nat) (x : Str) (n : Nat) (m : List D → Res D) : Prop where
  ex : ∃ (f : Addr) (fd : FuncData) (ps : List Str), FnOk P w K mg base (L2.CX P w) k f fd ps (spD K T n m) ∧ mg x = some (.ref f) ∧ PySem.W.keepIn K (.ref f) = true ∧ Binds K fd ps []
/-- a method of the class c -/
structure MthAt (k : Nat) (c : Nat) (x : Str) (n : Nat) (m : List D → Res D) : Prop where
  ex : ∃ (f : Addr) (fd : FuncData) (ps : List Str), FnOk P w K mg base (L2.CX P w) k f fd ps (spD K T (n + 1) m) ∧ Meth K (T.addr c) x f ∧ Binds K fd ps []
/-- a class that is made by its __init__ -/
structure MkAt (k : Nat) (c : Nat) (x : Str) (n : Nat) (m : List D → Res (List D)) : Prop where
  ex : ∃ (f : Addr) (fd : FuncData) (ps : List Str), FnOk P w K mg base (L2.CX P w) k f fd ps (spI K T c n m) ∧ mg x = some (.ref (T.addr c)) ∧ Mk K (T.addr c) f ∧ Binds K fd ps []
end
section
variable {P : Program} {w : World} {K : PySem.W.Frag} {mg : Str → Option Value} {base : Heap} {T : CT}
theorem FnAt.mono {j k : Nat} {x : Str} {n : Nat} {m : List D → Res D} (F : FnAt P w K mg base T j x n m) (h : j ≤ k) : FnAt P w K mg base T k x n m := by
  obtain ⟨f, fd, ps, F, r⟩ := F.ex
  exact ⟨f, fd, ps, F.mono h, r⟩
theorem MthAt.mono {j k c : Nat} {x : Str} {n : Nat} {m : List D → Res D} (F : MthAt P w K mg base T j c x n m) (h : j ≤ k) : MthAt P w K mg base T k c x n m := by
  obtain ⟨f, fd, ps, F, r⟩ := F.ex
  exact ⟨f, fd, ps, F.mono h, r⟩
theorem MkAt.mono {j k c : Nat} {x : Str} {n : Nat} {m : List D → Res (List D)} (F : MkAt P w K mg base T j c x n m) (h : j ≤ k) : MkAt P w K mg base T k c x n m := by
  obtain ⟨f, fd, ps, F, r⟩ := F.ex
  exact ⟨f, fd, ps, F.mono h, r⟩
end
section
variable {T : CT} {Fb : Gh} {X : Cx} {e a b c o : Expr} {es : List Expr} {m ma mb mc mo : Env → Res D} {pos p apos : Pos} {x : Str} {k n : Nat}
/-- what a call asks, whatever it ends in -/
theorem spD_of {σ : L2.St} {H : Hp} {F : List Addr} {ds : List D} {vs : List V} {Q : VK} {mf : List D → Res D} (hl : vs.length = n) (hav : ∀ a, avo Fb F a → H a ≠ none) (r : RepL (gx X T) H (avo Fb F) ds vs)
    (o : Out X T σ H (mf ds) fun d => ∀ v H', Same H H' → Rep (gx X T) H' (avo Fb F) d v → Q v H') : ∃ E : XK, PassesAt (L2.CX X.prog X.w) X σ E ∧ spD X.K T n mf vs H Q E := by
  cases q : mf ds with
  | ok d =>
    rw [q] at o
    exact ⟨E0, fun _ _ _ _ _ _ h => by obtain ⟨_, _, _, _, _, _, _, _, _, _, _, _, z⟩ := h; exact z.elim, hl, avo Fb F, ds, hav, r, by rw [q]; exact o⟩
  | err x =>
    rw [q] at o
    obtain ⟨W, tk, f⟩ := o
    exact ⟨WE W σ, passAt tk σ, hl, avo Fb F, ds, hav, r, by rw [q]; exact f⟩
  | bad => rw [q] at o; exact False.elim o
theorem binds_len {fd : FuncData} {ps : List Str} {K : PySem.W.Frag} {mg : Str → Option Value} {base : Heap} {P : Program} {w : World} {f : Addr} {CX : CXT} {sp : Sp} {vs : List V} {H : Hp} {Q : VK} {E : XK}
    (F : FnOk P w K mg base CX k f fd ps sp) (h : sp vs H Q E) : vs.length = ps.length := F.len _ _ _ _ h
theorem me_call {mf : List D → Res D} {ms : Env → Res (List D)} (F : FnAt X.prog X.w X.K X.mg X.base T k x (es.length + 1) mf) (hr : Room k X.A) (ha : ML T Fb X (e :: es) ms) (hl : ∀ ρ ds, ms ρ = .ok ds → ds.length = es.length + 1) (hg : Gl X x := by rfl) (hdb : (x == ("__debug__" : Str)) = false := by decide)
    (he : starEach (e :: es) X.env = (false, eval e X.env) :: starEach es X.env := by rfl) (hpl : (backTo pos (starEach es X.env)).any (·.1) = false := by rfl) : ME T Fb X (.Call (.Name x p) (e :: es) [] pos) (mArg mf ms) := by
  obtain ⟨f, fd, ps, F, hm, hk, hb⟩ := F.ex
  refine ⟨fun σ H Fo ρ Q S o pins s I => ?_⟩
  refine wpAny_Call_Name_kw (ld_glob I hg hm ?_ hdb)
  have args : TWa X (e :: es) σ H fun vs H1 => ∃ E : XK, PassesAt (L2.CX X.prog X.w) X σ E ∧ spD X.K T (es.length + 1) mf vs H1 Q E := by
    refine ha.run σ H Fo ρ _ S (o.bind.imp fun ds e1 o1 vs H1 s1 r1 => ?_)
    exact spD_of (by rw [r1.length]; exact hl _ _ e1) (S.same s1).av r1 ((o1.same s1).imp fun d _ f v H2 s2 r2 => f v H2 (s1.trans s2) r2)
  refine PySem.W.callWith_K (h₀ := X.base) I.ok.mod.kin hk (thn (args pos pins s I) fun us s1 ⟨vs, H1, I1, r, E, hx, q⟩ => ⟨I1.kIn, ?_⟩) he hpl
  exact run_fnS (E := fun _ => E) F hr hb hx I1 r q
theorem me_call0 {mf : List D → Res D} (F : FnAt X.prog X.w X.K X.mg X.base T k x 0 mf) (hr : Room k X.A) (hg : Gl X x := by rfl) (hdb : (x == ("__debug__" : Str)) = false := by decide) : ME T Fb X (.Call (.Name x p) [] [] pos) (mArg mf mNil) := by
  obtain ⟨f, fd, ps, F, hm, hk, hb⟩ := F.ex
  refine ⟨fun σ H Fo ρ Q S o pins s I => ?_⟩
  refine wpAny_Call_Name_kw (ld_glob I hg hm ?_ hdb)
  obtain ⟨E, hx, q⟩ := spD_of (X := X) (n := 0) (Q := Q) (vs := []) (ds := []) rfl S.av rfl (show Out X T σ H (mf []) _ from o)
  exact PySem.W.callWith_K0 I.kIn hk (run_fnS (us := []) (E := fun _ => E) F hr hb hx I .nil q)
/-- the written arguments' number -/
theorem len_nil : ∀ (ρ : Env) (ds : List D), mNil ρ = .ok ds → ds.length = 0 := fun ρ ds h => by cases h; rfl
theorem len_cons {mr : Env → Res (List D)} {n : Nat} (h : ∀ ρ ds, mr ρ = .ok ds → ds.length = n) : ∀ (ρ : Env) (ds : List D), mCons ma mr ρ = .ok ds → ds.length = n + 1 := fun ρ ds e => by
  unfold mCons at e
  cases q : ma ρ with
  | ok y =>
    rw [q, bind_ok] at e
    cases q2 : mr ρ with
    | ok ys => rw [q2, bind_ok] at e; cases e; rw [List.length_cons, h ρ ys q2]
    | err z => rw [q2] at e; cases e
    | bad => rw [q2] at e; cases e
  | err z => rw [q] at e; cases e
  | bad => rw [q] at e; cases e
/-- o.m(..), o a whole instance of the class c -/
def mMth {α : Type} (c : Nat) (mf : List D → Res α) (mo : Env → Res D) (ms : Env → Res (List D)) : Env → Res α := fun ρ => mo ρ >>= fun d => match d with
  | .obj c' xs => if c' = c then ms ρ >>= fun ds => mf (.obj c' xs :: ds) else .bad
  | _ => .bad
theorem zip_lookup_none : ∀ {ns : List Str} {vs : List V} {f : Str}, f ∉ ns → (ns.zip vs).lookup f = none
  | [], _, _, _ => rfl
  | n :: ns, [], _, _ => rfl
  | n :: ns, v :: vs, f, h => by
    rw [List.zip_cons_cons]
    have h1 : (f == n) = false := by
      cases q : (f == n) with
      | false => rfl
      | true => exact absurd (beq_iff_eq.mp q ▸ List.mem_cons_self) h
    rw [List.lookup_cons, h1]
    exact zip_lookup_none fun z => h (List.mem_cons_of_mem _ z)
theorem me_meth {c : Nat} {mf : List D → Res D} {ms : Env → Res (List D)} {pl : Sem Bool} (F : MthAt X.prog X.w X.K X.mg X.base T k c x (es.length + 1) mf) (cl : Cls X.K (T.addr c)) (hr : Room k X.A) (ho : ME T Fb X o mo) (ha : ML T Fb X (e :: es) ms) (hl : ∀ ρ ds, ms ρ = .ok ds → ds.length = es.length + 1)
    (hx : x ∉ flds c := by decide +kernel) (hst : starEach (e :: es) X.env = (false, eval e X.env) :: starEach es X.env := by rfl) (hpl : (backTo pos (starEach es X.env)).any (·.1) = false := by rfl)
    (ht : eval (.Call (.Attribute o x apos) (e :: es) [] pos) X.env = (do
      let ov ← eval o X.env
      standAt apos.atName
      let (f, first) ← holding [ov] (getMethod ov x pl)
      callWith pos f first (backTo pos (starEach (e :: es) X.env)) (backToKw pos (keywordEach [] X.env))) := by rfl) : ME T Fb X (.Call (.Attribute o x apos) (e :: es) [] pos) (mMth c mf mo ms) := by
  obtain ⟨f, fd, ps, F, hm, hb⟩ := F.ex
  refine ⟨fun σ H Fo ρ Q S o' pins s I => ?_⟩
  refine PySem.W.methodCall_KW (pl := pl) (thn (ho.run σ H Fo ρ (fun v H1 => ∃ a dx fs, v = .ref a ∧ H1 a = some (.ins (T.addr c) dx fs) ∧ fs.lookup x = none ∧ TWa X (e :: es) σ H1 fun vs H2 => ∃ E : XK, PassesAt (L2.CX X.prog X.w) X σ E ∧ spD X.K T (es.length + 2) mf (v :: vs) H2 Q E) S (o'.bind.imp fun d _ o1 v H1 s1 r1 => ?_) pins s I)
    fun u s1 ⟨v, H1, I1, rx, a, dx, fs, ex, ea, l, q⟩ => ?_) ht
  · cases d with
    | obj c' xs =>
      by_cases hc : c' = c
      · subst hc
        have o1 : Out X T σ H (if c' = c' then ms ρ >>= fun ds => mf (.obj c' xs :: ds) else .bad) _ := o1
        rw [if_pos rfl] at o1
        obtain ⟨a, dx, vs0, rfl, ⟨h1, na⟩, hl0, h2⟩ := id r1
        refine ⟨a, dx, _, rfl, h1, zip_lookup_none hx, ?_⟩
        refine ha.run σ H1 Fo ρ _ (S.same s1) ((o1.same s1).bind.imp fun ds e1 o2 vs H2 s2 r2 => ?_)
        exact spD_of (ds := .obj c' xs :: ds) (by rw [List.length_cons, r2.length, hl _ _ e1]) ((S.same s1).same s2).av ⟨_, _, rfl, r1.same s2, r2⟩ ((o2.same s2).imp fun d _ f v H3 s3 r3 => f v H3 (s1.trans (s2.trans s3)) r3)
      · have o1 : Out X T σ H (if c' = c then ms ρ >>= fun ds => mf (.obj c' xs :: ds) else .bad) _ := o1
        rw [if_neg hc] at o1
        exact False.elim o1
    | _ => exact False.elim o1
  · subst ex
    obtain rfl : u = Value.ref a := rx
    refine getmeth_ok I1 ea cl hm l ?_
    refine PySem.W.callWith_K (first := [.ref a]) (h₀ := X.base) I.ok.mod.kin hm.kp (thn (q pos pins s1 I1) fun us s2 ⟨vs, H2, I2, r, E, hx, q2⟩ => ⟨I2.kIn, ?_⟩) hst hpl
    exact run_fnS (us := .ref a :: us) (vs := .ref a :: vs) (E := fun _ => E) F hr hb hx I2 (.cons rfl r) q2
theorem me_meth0 {c : Nat} {mf : List D → Res D} {pl : Sem Bool} (F : MthAt X.prog X.w X.K X.mg X.base T k c x 0 mf) (cl : Cls X.K (T.addr c)) (hr : Room k X.A) (ho : ME T Fb X o mo)
    (hx : x ∉ flds c := by decide +kernel)
    (ht : eval (.Call (.Attribute o x apos) [] [] pos) X.env = (do
      let ov ← eval o X.env
      standAt apos.atName
      let (f, first) ← holding [ov] (getMethod ov x pl)
      callWith pos f first (backTo pos (starEach [] X.env)) (backToKw pos (keywordEach [] X.env))) := by rfl) : ME T Fb X (.Call (.Attribute o x apos) [] [] pos) (mMth c mf mo mNil) := by
  obtain ⟨f, fd, ps, F, hm, hb⟩ := F.ex
  refine ⟨fun σ H Fo ρ Q S o' pins s I => ?_⟩
  refine PySem.W.methodCall_KW (pl := pl) (thn (ho.run σ H Fo ρ (fun v H1 => ∃ a dx fs, v = .ref a ∧ H1 a = some (.ins (T.addr c) dx fs) ∧ fs.lookup x = none ∧ ∃ E : XK, PassesAt (L2.CX X.prog X.w) X σ E ∧ spD X.K T 1 mf [v] H1 Q E) S (o'.bind.imp fun d _ o1 v H1 s1 r1 => ?_) pins s I)
    fun u s1 ⟨v, H1, I1, rx, a, dx, fs, ex, ea, l, E, hx, q⟩ => ?_) ht
  · cases d with
    | obj c' xs =>
      by_cases hc : c' = c
      · subst hc
        have o1 : Out X T σ H (if c' = c' then mNil ρ >>= fun ds => mf (.obj c' xs :: ds) else .bad) _ := o1
        rw [if_pos rfl] at o1
        obtain ⟨a, dx, vs0, rfl, ⟨h1, na⟩, hl0, h2⟩ := id r1
        refine ⟨a, dx, _, rfl, h1, zip_lookup_none hx, ?_⟩
        exact spD_of (ds := [.obj c' xs]) rfl (S.same s1).av ⟨_, _, rfl, r1, rfl⟩ ((o1.same s1).imp fun d _ f v H3 s3 r3 => f v H3 (s1.trans s3) r3)
      · have o1 : Out X T σ H (if c' = c then mNil ρ >>= fun ds => mf (.obj c' xs :: ds) else .bad) _ := o1
        rw [if_neg hc] at o1
        exact False.elim o1
    | _ => exact False.elim o1
  · subst ex
    obtain rfl : u = Value.ref a := rx
    refine getmeth_ok I1 ea cl hm l ?_
    exact PySem.W.callWith_K0 (first := [.ref a]) I1.kIn hm.kp (run_fnS (us := [.ref a]) (vs := [.ref a]) (E := fun _ => E) F hr hb hx I1 (.cons rfl .nil) q)
/-- C(..) -/
def mMk (c : Nat) (mf : List D → Res (List D)) (ms : Env → Res (List D)) : Env → Res D := fun ρ => ms ρ >>= fun ds => mf ds >>= fun fs => .ok (.obj c fs)
theorem run_makeS {CX : CXT} {C f : Addr} {fd : FuncData} {ps : List Str} {sp : Sp} {E : XK} {pins : List (Addr × Obj)} {σ : L2.St} {H : Hp} {s : Shared} {Q : VK} {us : List Value} {vs : List V} (M : Mk X.K C f) (F : FnOk X.prog X.w X.K X.mg X.base CX k f fd ps sp) (hr : Room (k + 1) X.A) (hb : Binds X.K fd ps [])
    (hx : PassesAt CX X σ E) (I : Inv X pins σ H s) (r : Vals vs us)
    (h : ∀ x dx, H x = none → H dx = none → dx ≠ x → sp (.ref x :: vs) (upd (upd H dx (.own x)) x (.ins C dx [])) (fun v H2 => v = .non ∧ Q (.ref x) H2) E) :
    wpAny (model X.prog X.w) X.A (call (.ref C) us) (EP X pins σ Q) X.xe s := by
  have hq := h (s.heap.objs.size + 1) s.heap.objs.size (I.hok.fresh (Nat.le_succ _)) (I.hok.fresh (Nat.le_refl _)) (Nat.ne_of_lt (Nat.lt_succ_self _))
  have I2 := Inv.made (C := C) I
  have r2 : Vals (V.ref (s.heap.objs.size + 1) :: vs) (Value.ref (s.heap.objs.size + 1) :: us) := .cons rfl r
  have hl : (Value.ref (s.heap.objs.size + 1) :: us).length = ps.length := by
    have e := r2.length
    rw [F.len _ _ _ _ hq] at e
    exact e.symm
  have b := hb _ (Value.ref (s.heap.objs.size + 1) :: us) I2.kIn (by rw [List.append_nil]; exact hl)
  rw [List.append_nil] at b
  refine wpAny_call (make_map (f := f) I.kIn M.makes M.init (beq_iff_eq.mp M.fn) (codeAny_mono (F.run _ X.stack _ _ ⟨Value.ref (s.heap.objs.size + 1) :: us, []⟩ (Value.ref (s.heap.objs.size + 1) :: us) _ _ E (hr.make C us [])
    (I2.env0.make C us []) b r2 hq) fun r s' hq' => ?_))
  cases r with
  | error e => exact hx pins _ _ e s' I2 hq'
  | ok fl =>
    cases fl with
    | ret u =>
      obtain ⟨v, H', I3, rv, ev, q3⟩ := I2.after hq'
      subst ev
      exact ⟨rv, ⟨V.ref (s.heap.objs.size + 1), H', I3, rfl, q3⟩⟩
    | next => exact False.elim hq'
    | brk => exact False.elim hq'
    | cont => exact False.elim hq'
theorem me_make {c : Nat} {mf : List D → Res (List D)} {ms : Env → Res (List D)} (F : MkAt X.prog X.w X.K X.mg X.base T k c x (es.length + 1) mf) (hr : Room (k + 1) X.A) (ha : ML T Fb X (e :: es) ms) (hl : ∀ ρ ds, ms ρ = .ok ds → ds.length = es.length + 1) (hg : Gl X x := by rfl) (hdb : (x == ("__debug__" : Str)) = false := by decide)
    (he : starEach (e :: es) X.env = (false, eval e X.env) :: starEach es X.env := by rfl) (hpl : (backTo pos (starEach es X.env)).any (·.1) = false := by rfl) : ME T Fb X (.Call (.Name x p) (e :: es) [] pos) (mMk c mf ms) := by
  obtain ⟨f, fd, ps, F, hm, M, hb⟩ := F.ex
  refine ⟨fun σ H Fo ρ Q S o pins s I => ?_⟩
  refine wpAny_Call_Name_kw (ld_glob I hg hm ?_ hdb)
  have args : TWa X (e :: es) σ H fun vs H1 => ∃ E : XK, PassesAt (L2.CX X.prog X.w) X σ E ∧ ∀ x dx, H1 x = none → H1 dx = none → dx ≠ x →
      spI X.K T c (es.length + 1) mf (.ref x :: vs) (upd (upd H1 dx (.own x)) x (.ins (T.addr c) dx [])) (fun v H2 => v = .non ∧ Q (.ref x) H2) E := by
    refine ha.run σ H Fo ρ _ S (o.bind.imp fun ds e1 o1 vs H1 s1 r1 => ?_)
    have S1 := S.same s1
    have up : ∀ {x dx : Addr}, H1 x = none → H1 dx = none → dx ≠ x → Same H1 (upd (upd H1 dx (.own x)) x (.ins (T.addr c) dx [])) := fun {x dx} hx hd ne a o e => by
      rw [upd_ne (ne_of_none e hx), upd_ne (ne_of_none e hd)]; exact e
    have kp : ∀ {x dx : Addr}, H1 x = none → H1 dx = none → dx ≠ x → Kept H1 (upd (upd H1 dx (.own x)) x (.ins (T.addr c) dx [])) (avo Fb Fo) (fun a => a = x ∨ avo Fb Fo a) := fun {x dx} hx hd ne =>
      ⟨fun a o e _ => up hx hd ne a o e, fun a z => z.elim (fun q => .inr (by rw [q]; exact hx)) .inl⟩
    have fin : ∀ {x : Addr} {H' H'' : Hp}, H1 x = none → (∀ a o, H' a = some o → a ≠ x → H'' a = some o) → Same H1 H' → Same H1 H'' := fun {x H' H''} hx f s a o e => f a o (s a o e) (ne_of_none e hx)
    cases q : mf ds with
    | ok fs =>
      rw [q] at o1
      refine ⟨E0, fun _ _ _ _ _ _ h => by obtain ⟨_, _, _, _, _, _, _, _, _, _, _, _, z⟩ := h; exact z.elim, fun x dx hx hd ne => ?_⟩
      refine ⟨by rw [List.length_cons, r1.length, hl _ _ e1], avo Fb Fo, ds, x, dx, vs, rfl, fun a z => (S1.same (up hx hd ne)).av a z, avo_no S1.av hx, upd_same, RepL.mono (kp hx hd ne) ds r1, ?_⟩
      rw [q]
      exact fun H' k r => ⟨rfl, o1 _ _ (s1.trans (fin hx k (up hx hd ne))) r⟩
    | err z =>
      rw [q] at o1
      obtain ⟨W, tk, f⟩ := o1
      refine ⟨WE W σ, passAt tk σ, fun x dx hx hd ne => ?_⟩
      refine ⟨by rw [List.length_cons, r1.length, hl _ _ e1], avo Fb Fo, ds, x, dx, vs, rfl, fun a z => (S1.same (up hx hd ne)).av a z, avo_no S1.av hx, upd_same, RepL.mono (kp hx hd ne) ds r1, ?_⟩
      rw [q]
      exact fun cls d H' k r => f cls d H' (s1.trans (fin hx k (up hx hd ne))) r
    | bad => rw [q] at o1; exact False.elim o1
  refine PySem.W.callWith_K (h₀ := X.base) I.ok.mod.kin M.kp (thn (args pos pins s I) fun us s1 ⟨vs, H1, I1, r, E, hx, q⟩ => ⟨I1.kIn, ?_⟩) he hpl
  exact run_makeS M F hr hb hx I1 r q
/-- o.f, o a whole instance of the class c; f its j-th field -/
def fldD (c j : Nat) : D → Res D
  | .obj c' xs => if c' = c then opt xs[j]? else .bad
  | _ => .bad
theorem zip_lookup : ∀ {ns : List Str} {vs : List V} {f : Str} {j : Nat} {v : V}, ns.Nodup → ns[j]? = some f → vs[j]? = some v → (ns.zip vs).lookup f = some v
  | [], _, _, _, _, _, h, _ => by simp at h
  | n :: ns, [], _, _, _, _, _, h => by simp at h
  | n :: ns, w :: vs, f, 0, v, nd, h1, h2 => by
    simp at h1 h2
    subst h1 h2
    rw [List.zip_cons_cons, List.lookup_cons, beq_self_eq_true]
  | n :: ns, w :: vs, f, j + 1, v, nd, h1, h2 => by
    rw [List.zip_cons_cons, List.lookup_cons]
    have h1' : ns[j]? = some f := by simpa using h1
    have hf : (f == n) = false := by
      cases q : (f == n) with
      | false => rfl
      | true =>
        have e := beq_iff_eq.mp q
        rw [e] at h1'
        exact absurd (List.mem_of_getElem? h1') (List.nodup_cons.mp nd).1
    rw [hf]
    exact zip_lookup (List.nodup_cons.mp nd).2 h1' (by simpa using h2)
theorem me_fld (c j : Nat) {f : Str} (cl : Cls X.K (T.addr c)) (na : NoAttr X.K (T.addr c) f) (ho : ME T Fb X o mo) (hj : (flds c)[j]? = some f := by rfl) (nd : (flds c).Nodup := by decide +kernel)
    (hb : attributeBase o f X.env (eval o X.env) = eval o X.env := by rfl) : ME T Fb X (.Attribute o f pos) (mUn (fldD c j) mo) := by
  refine ⟨fun σ H F ρ Q S o' => (pe_fld pe_tw hb).tw ?_⟩
  refine ho.run σ H F ρ _ S (o'.bind.imp fun d _ o1 v H1 s1 r1 => ?_)
  cases d with
  | obj c' xs =>
    by_cases hc : c' = c
    · subst hc
      have o1 : Out X T σ H (if c' = c' then opt xs[j]? else .bad) _ := o1
      rw [if_pos rfl] at o1
      obtain ⟨d, e, f⟩ := o1.opt
      obtain ⟨a, dx, vs, rfl, ⟨h1, na'⟩, hl, h2⟩ := r1
      obtain ⟨w, e2, r⟩ := h2.get e
      exact ⟨a, _, dx, _, w, rfl, h1, cl, na, zip_lookup nd hj e2, f _ _ s1 r⟩
    · have o1 : Out X T σ H (if c' = c then opt xs[j]? else .bad) _ := o1
      rw [if_neg hc] at o1
      exact False.elim o1
  | _ => exact False.elim o1
end
end Cr
/-! Core, part 6: statements, targets, loops. -/
namespace Cr
open PySem PySem.Spec PyProof.Rows L2
inductive Flow where
  | nx (ρ : Env)
  | rt (d : D) (ρ : Env)
  | er (x : Exc) (ρ : Env)
  | bad
def bindF {α : Type} (r : Res α) (ρ : Env) (f : α → Flow) : Flow := match r with
  | .ok a => f a
  | .err x => .er x ρ
  | .bad => .bad
theorem bindF_ok {α : Type} (a : α) (ρ : Env) (f : α → Flow) : bindF (.ok a) ρ f = f a := rfl
theorem bindF_err {α : Type} (x : Exc) (ρ : Env) (f : α → Flow) : bindF (.err x) ρ f = .er x ρ := rfl
theorem bindF_bad {α : Type} (ρ : Env) (f : α → Flow) : bindF .bad ρ f = .bad := rfl
def OutS (X : Cx) (T : CT) (Fb : Gh) (D : Ends) (H : Hp) (F : List Addr) : Flow → Prop
  | .nx ρ' => ∀ σ' H' F', Post H F H' F' → StR (gx X T) Fb H' σ' ρ' F' → D.nx σ' H'
  | .rt d ρ' => ∀ v σ' H' F', Post H F H' F' → StR (gx X T) Fb H' σ' ρ' F' → Rep (gx X T) H' (avo Fb F') d v → D.rt v H'
  | .er x ρ' => ∃ W, Takes X W ∧ ∀ cls d σ' H' F', Post H F H' F' → StR (gx X T) Fb H' σ' ρ' F' → ExcRep (gx X T) H' x cls d → W cls d σ' H'
  | .bad => False
section
variable (T : CT) (Fb : Gh) (X : Cx)
structure MS (st : Stmt) (m : Env → Flow) : Prop where
  run : ∀ (σ : L2.St) (H : Hp) (F : List Addr) (ρ : Env) (D : Ends), StR (gx X T) Fb H σ ρ F → OutS X T Fb D H F (m ρ) → TWs X st D σ H
structure MSs (st : List Stmt) (m : Env → Flow) : Prop where
  run : ∀ (σ : L2.St) (H : Hp) (F : List Addr) (ρ : Env) (D : Ends), StR (gx X T) Fb H σ ρ F → OutS X T Fb D H F (m ρ) → TWss X st D σ H
end
section
variable {T : CT} {Fb : Gh} {X : Cx} {σ : L2.St} {H H1 : Hp} {F F1 : List Addr} {ρ : Env} {D : Ends} {fl : Flow}
theorem OutS.post (o : OutS X T Fb D H F fl) (p : Post H F H1 F1) : OutS X T Fb D H1 F1 fl := by
  cases fl with
  | nx ρ' => exact fun σ' H' F' q => o σ' H' F' (p.trans q)
  | rt d ρ' => exact fun v σ' H' F' q => o v σ' H' F' (p.trans q)
  | er x ρ' => obtain ⟨W, tk, f⟩ := o; exact ⟨W, tk, fun cls d σ' H' F' q => f cls d σ' H' F' (p.trans q)⟩
  | bad => exact o
theorem OutS.same (o : OutS X T Fb D H F fl) (s : Same H H1) : OutS X T Fb D H1 F fl := o.post (Post.of_same s)
theorem OutS.toOut {α : Type} {r : Res α} {f : α → Flow} (S : StR (gx X T) Fb H σ ρ F) (o : OutS X T Fb D H F (bindF r ρ f)) : Out X T σ H r fun a => OutS X T Fb D H F (f a) := by
  cases r with
  | ok a => exact o
  | err x =>
    obtain ⟨W, tk, g⟩ := o
    exact ⟨W, tk, fun cls d H' s r => g cls d σ H' F (Post.of_same s) (S.same s) r⟩
  | bad => exact o
end
/-! ### slots stored -/
/-- a slot that may be stored -/
def okS (ρ : Env) (i : Nat) : Bool := match ρ[i]? with
  | some (.oo _ _) => false
  | some _ => true
  | none => false
theorem okS_lt {ρ : Env} {i : Nat} (h : okS ρ i = true) : i < ρ.length := by
  unfold okS at h
  cases q : ρ[i]? with
  | none => rw [q] at h; cases h
  | some s => exact (List.getElem?_eq_some_iff.mp q).1
theorem okS_ne {ρ : Env} {i : Nat} (h : okS ρ i = true) : ∀ c fs, ρ[i]? ≠ some (.oo c fs) := fun c fs e => by
  unfold okS at h
  rw [e] at h
  cases h
def put (i : Nat) (s : Sl) (ρ : Env) : Flow := if okS ρ i = true then .nx (ρ.set i s) else .bad
section
variable {G : Gx} {Fb : Gh} {H H' : Hp} {σ : L2.St} {ρ : Env} {F : List Addr} {i : Nat}
theorem kept_sub {A A' : Addr → Prop} (h : ∀ a, A' a → A a) : Kept H H A A' := ⟨fun _ _ e _ => e, fun a z => .inl (h a z)⟩
/-- a slot takes a thing that owns nothing -/
theorem StR.sfSet (S : StR G Fb H σ ρ F) (hi : Fb.me = none ∨ ∀ c fs, ρ[i]? ≠ some (.oo c fs)) (t : Sl) (o' : Option V) : ∀ a, Fb.me = some a → (σ.set i o')[0]? = some (some (.ref a)) ∧ ∃ c fs, (ρ.set i t)[0]? = some (.oo c fs) := fun a h => by
  obtain ⟨h1, c, fs, h2⟩ := S.sf a h
  rcases hi with hi | hi
  · rw [hi] at h; cases h
  · have h0 : i ≠ 0 := fun z => hi c fs (by rw [z]; exact h2)
    rw [List.getElem?_set_ne h0, List.getElem?_set_ne h0]
    exact ⟨h1, c, fs, h2⟩
theorem StR.setN (S : StR G Fb H σ ρ F) (hi : i < ρ.length) (ho : Fb.me = none ∨ ∀ c fs, ρ[i]? ≠ some (.oo c fs)) {t : Sl} {o' : Option V} (r : RepSl G H (avo Fb F) t o' []) : StR G Fb H (σ.set i o') (ρ.set i t) F := by
  obtain ⟨F0, e, nd, sub⟩ := S.ex
  obtain ⟨o, p1, p, p2, e1, e2, r1, f⟩ := e.focus (List.getElem?_eq_getElem hi)
  refine ⟨⟨p1 ++ [] ++ p2, f (kept_sub fun _ z => z) (fun _ _ => rfl) (fun _ _ => rfl) r, ?_, fun a ha => sub a ?_⟩, S.dom, S.fb, S.sfSet ho t o'⟩
  · rw [e2] at nd
    refine nd.sublist ?_
    rw [List.append_nil, List.append_assoc]
    exact (List.Sublist.refl p1).append (List.sublist_append_right p p2)
  · rw [e2]
    simp only [List.append_nil, List.mem_append] at ha ⊢
    rcases ha with h | h
    · exact .inl (.inl h)
    · exact .inr h
/-- a slot takes a whole value -/
theorem StR.setD (S : StR G Fb H σ ρ F) (hi : okS ρ i = true) {d : D} {v : V} (r : Rep G H (avo Fb F) d v) : StR G Fb H (σ.set i (some v)) (ρ.set i (.v (.d d))) F := S.setN (okS_lt hi) (.inr (okS_ne hi)) ⟨v, rfl, rfl, r⟩
/-- a slot takes a new list -/
theorem StR.setO (S : StR G Fb H σ ρ F) (hk : okS ρ i = true) {ds : List D} {vs : List V} {p : Addr} (s : Same H H') (np : H p = none) (hp : H' p = some (.lst vs)) (r : RepL G H' (fun a => a = p ∨ avo Fb F a) ds vs) :
    Post H F H' (p :: F) ∧ StR G Fb H' (σ.set i (some (.ref p))) (ρ.set i (.v (.ol ds))) (p :: F) := by
  obtain ⟨F0, e, nd, sub⟩ := S.ex
  have hi := okS_lt hk
  obtain ⟨o, p1, q, p2, e1, e2, r1, f⟩ := e.focus (List.getElem?_eq_getElem hi)
  have nF : p ∉ F := fun z => absurd np (S.dom p z)
  have dm : ∀ a ∈ F, H' a = H a := fun a ha => same_at s (S.dom a ha)
  have m1 : ∀ a ∈ p1, a ∈ F := fun a ha => sub a (by rw [e2]; exact List.mem_append_left _ (List.mem_append_left _ ha))
  have m2 : ∀ a ∈ p2, a ∈ F := fun a ha => sub a (by rw [e2]; exact List.mem_append_right _ ha)
  have post : Post H F H' (p :: F) := ⟨fun a o e _ => s a o e, fun a z => (List.mem_cons.mp z).elim (fun e => .inr (by rw [e]; exact np)) .inl⟩
  have av2 : ∀ a, avo Fb (p :: F) a → a = p ∨ avo Fb F a := fun a z => by
    rcases z with z | z
    · rcases List.mem_cons.mp z with z | z
      · exact .inl z
      · exact .inr (.inl z)
    · exact .inr (.inr z)
  refine ⟨post, ⟨p1 ++ [p] ++ p2, f (s' := .v (.ol ds)) (o' := some (.ref p)) post.kept (fun a ha => dm a (m1 a ha)) (fun a ha => dm a (m2 a ha)) ⟨_, rfl, p, vs, rfl, rfl, hp, RepL.mono (kept_sub av2) ds r⟩, ?_, fun a ha => ?_⟩, fun a ha => ?_, fun a h => ⟨?_, fun z => ?_⟩, S.sfSet (.inr (okS_ne hk)) _ _⟩
  · rw [e2] at nd
    have nd2 : (p1 ++ p2).Nodup := nd.sublist (by rw [List.append_assoc]; exact (List.Sublist.refl p1).append (List.sublist_append_right q p2))
    rw [List.append_assoc]
    obtain ⟨n1, n2, n3⟩ := List.nodup_append.mp nd2
    refine List.nodup_append.mpr ⟨n1, List.nodup_cons.mpr ⟨fun z => nF (m2 p z), n2⟩, fun a ha b hb => ?_⟩
    rcases List.mem_cons.mp hb with e | hb
    · rw [e]; exact fun z => nF (by rw [← z]; exact m1 a ha)
    · exact n3 a ha b hb
  · simp only [List.mem_append, List.mem_singleton] at ha
    rcases ha with (h | h) | h
    · exact List.mem_cons_of_mem _ (m1 a h)
    · rw [h]; exact List.mem_cons_self
    · exact List.mem_cons_of_mem _ (m2 a h)
  · rcases List.mem_cons.mp ha with z | z
    · rw [z, hp]; exact fun z => by cases z
    · rw [dm a z]; exact S.dom a z
  · rw [same_at s (S.fb a h).1]; exact (S.fb a h).1
  · rcases List.mem_cons.mp z with z | z
    · exact (S.fb a h).1 (by rw [z]; exact np)
    · exact (S.fb a h).2 z
theorem StR.sfKeep (S : StR G Fb H σ ρ F) {f : Fd} (e : ρ[i]? = some (.v f)) (t : Sl) : ∀ a, Fb.me = some a → σ[0]? = some (some (.ref a)) ∧ ∃ c fs, (ρ.set i t)[0]? = some (.oo c fs) := fun a h => by
  obtain ⟨h1, c, fs, h2⟩ := S.sf a h
  have h0 : i ≠ 0 := fun z => by rw [z, h2] at e; cases e
  rw [List.getElem?_set_ne h0]
  exact ⟨h1, c, fs, h2⟩
theorem set_same {α : Type} {l : List α} {i : Nat} {a : α} (e : l[i]? = some a) : l.set i a = l := by
  obtain ⟨hlt, e⟩ := List.getElem?_eq_some_iff.mp e
  rw [← e, List.set_getElem_self]
/-- an owned list is changed -/
theorem StR.chgO (S : StR G Fb H σ ρ F) {xs : List D} (e : ρ[i]? = some (.v (.ol xs))) : ∃ a vs, σ[i]? = some (some (.ref a)) ∧ H a = some (.lst vs) ∧ RepL G H (avo Fb F) xs vs ∧ a ∈ F ∧
    ∀ {ys : List D} {ws : List V}, RepL G H (avo Fb F) ys ws → Post H F (upd H a (.lst ws)) F ∧ StR G Fb (upd H a (.lst ws)) σ (ρ.set i (.v (.ol ys))) F := by
  obtain ⟨F0, r0, nd, sub⟩ := S.ex
  obtain ⟨o, p1, p, p2, e1, e2, r1, f⟩ := r0.focus e
  obtain ⟨v, rfl, a, vs, rfl, rfl, h1, h2⟩ := r1
  have ma : a ∈ F := sub a (by rw [e2]; simp)
  refine ⟨a, vs, e1, h1, h2, ma, fun {ys ws} r => ?_⟩
  have post : Post H F (upd H a (.lst ws)) F := ⟨fun b o h n => by rw [upd_ne (fun z => n (by rw [z]; exact ma))]; exact h, fun _ h => .inl h⟩
  rw [e2] at nd
  have na1 : a ∉ p1 := fun z => (List.nodup_append.mp (List.nodup_append.mp nd).1).2.2 a z a (by simp) rfl
  have na2 : a ∉ p2 := fun z => (List.nodup_append.mp nd).2.2 a (by simp) a z rfl
  have up : ∀ b, H b ≠ none → upd H a (.lst ws) b ≠ none := fun b h => by
    by_cases hb : b = a
    · rw [hb, upd_same]; exact fun z => by cases z
    · rw [upd_ne hb]; exact h
  refine ⟨post, ⟨F0, ?_, by rw [e2]; exact nd, sub⟩, fun b h => up b (S.dom b h), fun b h => ⟨up b (S.fb b h).1, (S.fb b h).2⟩, S.sfKeep e _⟩
  have k := f (s' := .v (.ol ys)) (o' := some (.ref a)) (p' := [a]) (post.kept (Fb := Fb)) (fun b hb => upd_ne fun z => na1 (by rw [← z]; exact hb)) (fun b hb => upd_ne fun z => na2 (by rw [← z]; exact hb))
    ⟨_, rfl, a, ws, rfl, rfl, upd_same, RepL.mono post.kept ys r⟩
  rw [← e2, set_same e1] at k
  exact k
theorem mem_filter_ne {F : List Addr} {a b : Addr} : b ∈ F.filter (fun c => decide (c ≠ a)) ↔ b ∈ F ∧ b ≠ a := by
  rw [List.mem_filter]; simp
/-- an owned list is whole from now on -/
theorem StR.frz (S : StR G Fb H σ ρ F) {xs : List D} (e : ρ[i]? = some (.v (.ol xs))) : ∃ F', (∀ a ∈ F', a ∈ F) ∧ StR G Fb H σ (ρ.set i (.v (.d (.lst xs)))) F' := by
  obtain ⟨F0, r0, nd, sub⟩ := S.ex
  obtain ⟨o, p1, p, p2, e1, e2, r1, f⟩ := r0.focus e
  obtain ⟨v, rfl, a, vs, rfl, rfl, h1, h2⟩ := r1
  have ma : a ∈ F := sub a (by rw [e2]; simp)
  rw [e2] at nd
  have na1 : a ∉ p1 := fun z => (List.nodup_append.mp (List.nodup_append.mp nd).1).2.2 a z a (by simp) rfl
  have na2 : a ∉ p2 := fun z => (List.nodup_append.mp nd).2.2 a (by simp) a z rfl
  have sub2 : ∀ b ∈ F.filter (fun c => decide (c ≠ a)), b ∈ F := fun b h => (mem_filter_ne.mp h).1
  have k : Kept H H (avo Fb F) (avo Fb (F.filter (fun c => decide (c ≠ a)))) := kept_sub fun b z => z.elim (fun h => .inl (sub2 b h)) .inr
  have nav : ¬ avo Fb (F.filter (fun c => decide (c ≠ a))) a := fun z => by
    rcases z with z | z
    · exact (mem_filter_ne.mp z).2 rfl
    · exact (S.fb a z).2 ma
  refine ⟨_, sub2, ⟨p1 ++ [] ++ p2, ?_, ?_, fun b hb => mem_filter_ne.mpr ⟨sub b ?_, ?_⟩⟩, fun b h => S.dom b (sub2 b h), fun b h => ⟨(S.fb b h).1, fun z => (S.fb b h).2 (sub2 b z)⟩, S.sfKeep e _⟩
  · have q := f (s' := .v (.d (.lst xs))) (o' := some (.ref a)) (p' := []) k (fun _ _ => rfl) (fun _ _ => rfl) ⟨_, rfl, rfl, a, vs, rfl, ⟨h1, nav⟩, RepL.mono k xs h2⟩
    rw [set_same e1] at q
    exact q
  · refine nd.sublist ?_
    rw [List.append_nil, List.append_assoc]
    exact (List.Sublist.refl p1).append (List.sublist_append_right [a] p2)
  · rw [e2]
    simp only [List.append_nil, List.mem_append] at hb ⊢
    rcases hb with h | h
    · exact .inl (.inl h)
    · exact .inr h
  · simp only [List.append_nil, List.mem_append] at hb
    rintro rfl
    exact hb.elim na1 na2
end
section
variable {T : CT} {Fb : Gh} {X : Cx} {e a b c o : Expr} {es : List Expr} {st : Stmt} {rest : List Stmt} {me ma : Env → Res D} {m m' : Env → Flow} {pos p apos : Pos} {x : Str} {k n : Nat}
/-! ### blocks and small statements -/
def mEnd : Env → Flow := .nx
def mSeq (m m' : Env → Flow) : Env → Flow := fun ρ => match m ρ with
  | .nx ρ' => m' ρ'
  | f => f
theorem mss_nil : MSs T Fb X [] mEnd := ⟨fun σ H F ρ D S o => pss_nil.tw (o σ H F Post.refl S)⟩
theorem seq_core {D : Ends} {σ : L2.St} {H : Hp} {F : List Addr} {ρ : Env} (h2 : MSs T Fb X rest m') (o : OutS X T Fb D H F (mSeq m m' ρ)) : OutS X T Fb { D with nx := TWss X rest D } H F (m ρ) := by
  unfold mSeq at o
  cases q : m ρ with
  | nx ρ' => rw [q] at o; exact fun σ' H' F' p S' => h2.run σ' H' F' ρ' D S' (OutS.post o p)
  | rt d ρ' => rw [q] at o; exact o
  | er x ρ' => rw [q] at o; exact o
  | bad => rw [q] at o; exact o
theorem mss_cons (h1 : MS T Fb X st m) (h2 : MSs T Fb X rest m') : MSs T Fb X (st :: rest) (mSeq m m') :=
  ⟨fun σ H F ρ D S o => (pss_cons ps_tw pss_tw).tw (h1.run σ H F ρ _ S (seq_core (σ := σ) h2 o))⟩
theorem mss_one (h1 : MS T Fb X st m) : MSs T Fb X [st] m := ⟨fun σ H F ρ D S o => (pss_one ps_tw).tw (h1.run σ H F ρ D S o)⟩
/-- from here on the list in slot i is whole -/
def frzE (i : Nat) (ρ : Env) : Env := match ρ[i]? with
  | some (.v (.ol xs)) => ρ.set i (.v (.d (.lst xs)))
  | _ => ρ
def mFrz (i : Nat) (m : Env → Flow) : Env → Flow := fun ρ => m (frzE i ρ)
theorem mss_frz (i : Nat) (h : MSs T Fb X rest m) : MSs T Fb X rest (mFrz i m) := by
  refine ⟨fun σ H F ρ D S o => ?_⟩
  unfold mFrz frzE at o
  split at o
  · rename_i xs e
    obtain ⟨F', sub, S'⟩ := S.frz e
    exact h.run σ H F' _ D S' (o.post ⟨fun a o h _ => h, fun a z => .inl (sub a z)⟩)
  · exact h.run σ H F ρ D S o
theorem ms_pass : MS T Fb X (.Pass pos) mEnd := ⟨fun σ H F ρ D S o => ps_pass.tw (o σ H F Post.refl S)⟩
def mEx {α : Type} (m : Env → Res α) : Env → Flow := fun ρ => bindF (m ρ) ρ fun _ => .nx ρ
theorem ms_expr (he : ME T Fb X e me) (hs : swapsWith e none pos.line X.env = pure false := by rfl) : MS T Fb X (.Expr e pos) (mEx me) :=
  ⟨fun σ H F ρ D S o => (ps_expr pe_tw hs).tw (he.run σ H F ρ _ S ((OutS.toOut S o).imp fun _ _ f _ H1 s _ => f σ H1 F (Post.of_same s) (S.same s)))⟩
def mRet (m : Env → Res D) : Env → Flow := fun ρ => bindF (m ρ) ρ fun d => .rt d ρ
theorem ms_ret (he : ME T Fb X e me) : MS T Fb X (.Return (some e) pos) (mRet me) :=
  ⟨fun σ H F ρ D S o => (ps_ret pe_tw).tw (he.run σ H F ρ _ S ((OutS.toOut S o).imp fun _ _ f v H1 s r => f v σ H1 F (Post.of_same s) (S.same s) r))⟩
def mIfS (t : Env → Res Bool) (m m' : Env → Flow) : Env → Flow := fun ρ => bindF (t ρ) ρ fun k => match k with
  | true => m ρ
  | false => m' ρ
theorem ms_if {t : Env → Res Bool} {A B : List Stmt} (hc : MT T Fb X c t) (ha : MSs T Fb X A m) (hb : MSs T Fb X B m') : MS T Fb X (.If c A B pos) (mIfS t m m') := by
  refine ⟨fun σ H F ρ D S o => (ps_if pt_tw pss_tw pss_tw).tw ?_⟩
  refine hc.run σ H F ρ _ S ((OutS.toOut S o).imp fun k _ o1 H1 s1 => ?_)
  cases k with
  | true => exact iteT (ha.run σ H1 F ρ D (S.same s1) (OutS.same (show OutS X T Fb D H F (m ρ) from o1) s1))
  | false => exact iteF (hb.run σ H1 F ρ D (S.same s1) (OutS.same (show OutS X T Fb D H F (m' ρ) from o1) s1))
/-- x = e -/
def mSet (i : Nat) (m : Env → Res D) : Env → Flow := fun ρ => bindF (m ρ) ρ fun d => put i (.v (.d d)) ρ
theorem OutS.put {D : Ends} {H : Hp} {F : List Addr} {ρ : Env} {i : Nat} {s : Sl} (o : OutS X T Fb D H F (put i s ρ)) : okS ρ i = true ∧ OutS X T Fb D H F (.nx (ρ.set i s)) := by
  unfold Cr.put at o
  by_cases h : okS ρ i = true
  · rw [if_pos h] at o; exact ⟨h, o⟩
  · rw [if_neg h] at o; exact False.elim o
theorem ms_set (i : Nat) {pos' : Pos} (hN : X.N.Nodup) (he : ME T Fb X e me) (hi : X.N[i]? = some x := by rfl) (hx : Loc X.env.scope x := by first | exact Or.inl rfl | exact Or.inr rfl) (hs : swapsWith e (some (.Name x pos')) pos.line X.env = pure false := by rfl)
    (hf : X.fn x = true ∨ X.env.scope.names.lookup x = some .local := by first | exact .inl rfl | exact .inr rfl | assumption) : MS T Fb X (.Assign [.Name x pos'] e pos) (mSet i me) := by
  refine ⟨fun σ H F ρ D S o => (ps_set hN hi hx pe_tw hs hf).tw ?_⟩
  refine he.run σ H F ρ _ S ((OutS.toOut S o).imp fun d _ o1 v H1 s r => ?_)
  obtain ⟨hl, o2⟩ := o1.put
  exact o2 _ _ F (Post.of_same s) ((S.same s).setD hl r)
/-- x = a new list that x will change -/
def mSetO (i : Nat) (m : Env → Res (List D)) : Env → Flow := fun ρ => bindF (m ρ) ρ fun d => put i (.v (.ol d)) ρ
theorem ms_setO (i : Nat) {mf : Env → Res (List D)} {pos' : Pos} (hN : X.N.Nodup) (he : MF T Fb X e mf) (hi : X.N[i]? = some x := by rfl) (hx : Loc X.env.scope x := by first | exact Or.inl rfl | exact Or.inr rfl) (hs : swapsWith e (some (.Name x pos')) pos.line X.env = pure false := by rfl)
    (hf : X.fn x = true ∨ X.env.scope.names.lookup x = some .local := by first | exact .inl rfl | exact .inr rfl | assumption) : MS T Fb X (.Assign [.Name x pos'] e pos) (mSetO i mf) := by
  refine ⟨fun σ H F ρ D S o => (ps_set hN hi hx pe_tw hs hf).tw ?_⟩
  refine he.run σ H F ρ _ S ((OutS.toOut S o).imp fun d _ o1 q vs H1 nq s hq r => ?_)
  obtain ⟨hl, o2⟩ := o1.put
  obtain ⟨p, S'⟩ := S.setO hl s nq hq r
  exact o2 _ _ _ p S'
theorem OutS.if {D : Ends} {H : Hp} {F : List Addr} {c : Prop} [Decidable c] {fl : Flow} (o : OutS X T Fb D H F (if c then fl else .bad)) : c ∧ OutS X T Fb D H F fl := by
  by_cases h : c
  · rw [if_pos h] at o; exact ⟨h, o⟩
  · rw [if_neg h] at o; exact False.elim o
end
end Cr
/-! Core, part 7: methods of one's own lists, fields, targets, loops. -/
namespace Cr
open PySem PySem.Spec PyProof.Rows L2
section
variable {T : CT} {Fb : Gh} {X : Cx} {e a b c o : Expr} {es : List Expr} {st : Stmt} {rest : List Stmt} {me ma : Env → Res D} {m m' : Env → Flow} {pos p apos : Pos} {x : Str} {k n : Nat}
/-! ### x.append(..), x a list of one's own -/
structure LstM (T : CT) (X : Cx) (mid : String) (g : List D → List D → Res (List D)) : Prop where
  ex : ∃ r : V → List V → Hp → VK → Prop, MtR X mid r ∧ ∀ (σ : L2.St) (H : Hp) (Av : Addr → Prop) (l : Addr) (xs ds : List D) (vs ws : List V) (Q : VK), H l = some (.lst vs) → RepL (gx X T) H Av xs vs → Paired (RepB (gx X T) H Av) ds ws →
    Out X T σ H (g xs ds) (fun ys => ∀ vs', RepL (gx X T) H Av ys vs' → Q .non (upd H l (.lst vs'))) → r (.ref l) ws H Q
/-- .. with arguments that go into the list -/
structure LstW (T : CT) (X : Cx) (mid : String) (g : List D → List D → Res (List D)) : Prop where
  ex : ∃ r : V → List V → Hp → VK → Prop, MtR X mid r ∧ ∀ (σ : L2.St) (H : Hp) (Av : Addr → Prop) (l : Addr) (xs ds : List D) (vs ws : List V) (Q : VK), H l = some (.lst vs) → RepL (gx X T) H Av xs vs → RepL (gx X T) H Av ds ws →
    Out X T σ H (g xs ds) (fun ys => ∀ vs', RepL (gx X T) H Av ys vs' → Q .non (upd H l (.lst vs'))) → r (.ref l) ws H Q
def appG : List D → List D → Res (List D)
  | xs, [d] => if xs.length < sizeLine then .ok (xs ++ [d]) else .bad
  | _, _ => .bad
theorem lw_append : LstW T X "list.append" appG := by
  refine ⟨_, mt_append, fun σ H Av l xs ds vs ws Q hl r1 r2 o => ?_⟩
  match ds, o with
  | [d], o =>
    obtain ⟨hz, f⟩ := o.if
    obtain ⟨v, vr, rfl, r3, r4⟩ := r2
    have r4 : vr = [] := r4
    subst r4
    exact ⟨l, vs, v, rfl, rfl, hl, by rw [r1.length]; exact hz, f _ (r1.append ⟨v, [], rfl, r3, rfl⟩)⟩
def insG : List D → List D → Res (List D)
  | xs, [.int i, d] => if xs.length < sizeLine ∧ 0 ≤ i ∧ i < 2 ^ 63 then .ok (xs.take i.toNat ++ [d] ++ xs.drop i.toNat) else .bad
  | _, _ => .bad
theorem lw_insert : LstW T X "list.insert" insG := by
  refine ⟨_, mt_insert, fun σ H Av l xs ds vs ws Q hl r1 r2 o => ?_⟩
  match ds, o with
  | [.int i, d], o =>
    obtain ⟨⟨hz, h0, h1⟩, f⟩ := o.if
    obtain ⟨v, vr, rfl, r3, w, vr', rfl, r4, r5⟩ := r2
    have r5 : vr' = [] := r5
    have r3 : v = V.int i := r3
    subst r5 r3
    exact ⟨l, vs, i, w, rfl, rfl, hl, by rw [r1.length]; exact hz, h0, h1, f _ (((r1.take _).append (RepL.cons r4 (RepL.nil_iff.mpr rfl))).append (r1.drop _))⟩
def extG : List D → List D → Res (List D)
  | xs, [.lst ys] => if xs.length + ys.length ≤ sizeLine then .ok (xs ++ ys) else .bad
  | _, _ => .bad
theorem lm_extend : LstM T X "list.extend" extG := by
  refine ⟨_, mt_extend, fun σ H Av l xs ds vs ws Q hl r1 r2 o => ?_⟩
  match ds, o with
  | [.lst ys], o =>
    obtain ⟨hz, f⟩ := o.if
    obtain ⟨v, rfl, b, zs, rfl, hb, r3⟩ := paired1 r2
    exact ⟨l, b, vs, zs, rfl, rfl, hl, hb, by rw [r1.length, r3.length]; exact hz, f _ (r1.append r3)⟩
/-- the list in slot i changed by g -/
def mLm (i : Nat) (g : List D → List D → Res (List D)) (ms : Env → Res (List D)) : Env → Flow := fun ρ => match ρ[i]? with
  | some (.v (.ol xs)) => bindF (ms ρ) ρ fun ds => bindF (g xs ds) ρ fun ys => .nx (ρ.set i (.v (.ol ys)))
  | _ => .bad
theorem ms_lw (i : Nat) {mid : String} {nm : Str} {p2 : Pos} {g : List D → List D → Res (List D)} {ms : Env → Res (List D)} (hM : LstW T X mid g) (ha : ML T Fb X es ms) (hN : X.N[i]? = some x := by rfl) (hv : Vis X.env.scope x := by first | exact Or.inl rfl | exact Or.inr (Or.inl rfl) | exact Or.inr (Or.inr rfl))
    (hd : (x == ("__debug__" : Str)) = false := by decide) (hcd : (x == ("__classdict__" : Str)) = false := by decide)
    (hs : swapsWith (.Call (.Attribute (.Name x p2) nm apos) es [] p) none pos.line X.env = pure false := by rfl)
    (hpe : ∀ {r : V → List V → Hp → VK → Prop} {to : TE} {t : TA}, MtR X mid r → PE X (.Name x p2) to → PA X es t → PE X (.Call (.Attribute (.Name x p2) nm apos) es [] p) (tBM X.K "list" r to t)) :
    MS T Fb X (.Expr (.Call (.Attribute (.Name x p2) nm apos) es [] p) pos) (mLm i g ms) := by
  obtain ⟨r, hr, f⟩ := hM.ex
  refine ⟨fun σ H F ρ De S o => (ps_expr (hpe hr (pe_var hN hv hd hcd) pa_tw) hs).tw ?_⟩
  unfold mLm at o
  split at o
  · rename_i xs e
    obtain ⟨a, vs, e1, h1, h2, _, _⟩ := S.chgO e
    refine ⟨_, e1, .inl ⟨rfl, vs, SqL.of h1⟩, ?_⟩
    refine ha.run σ H F ρ _ S ((OutS.toOut S o).imp fun ds _ o1 ws H1 s1 r1 => ?_)
    have S1 := S.same s1
    obtain ⟨a', vs', e1', h1', h2', _, k⟩ := S1.chgO e
    rw [e1] at e1'
    cases e1'
    refine f σ H1 (avo Fb F) a xs ds vs' ws _ h1' h2' r1 ((OutS.toOut S1 (o1.same s1)).imp fun ys _ o2 zs r3 => ?_)
    obtain ⟨p, S'⟩ := k r3
    exact o2 _ _ _ p S'
  · exact False.elim o
theorem ms_lm (i : Nat) {mid : String} {nm : Str} {p2 : Pos} {g : List D → List D → Res (List D)} {ms : Env → Res (List D)} (hM : LstM T X mid g) (ha : MLb T Fb X es ms) (hN : X.N[i]? = some x := by rfl) (hv : Vis X.env.scope x := by first | exact Or.inl rfl | exact Or.inr (Or.inl rfl) | exact Or.inr (Or.inr rfl))
    (hd : (x == ("__debug__" : Str)) = false := by decide) (hcd : (x == ("__classdict__" : Str)) = false := by decide)
    (hs : swapsWith (.Call (.Attribute (.Name x p2) nm apos) es [] p) none pos.line X.env = pure false := by rfl)
    (hpe : ∀ {r : V → List V → Hp → VK → Prop} {to : TE} {t : TA}, MtR X mid r → PE X (.Name x p2) to → PA X es t → PE X (.Call (.Attribute (.Name x p2) nm apos) es [] p) (tBM X.K "list" r to t)) :
    MS T Fb X (.Expr (.Call (.Attribute (.Name x p2) nm apos) es [] p) pos) (mLm i g ms) := by
  obtain ⟨r, hr, f⟩ := hM.ex
  refine ⟨fun σ H F ρ De S o => (ps_expr (hpe hr (pe_var hN hv hd hcd) pa_tw) hs).tw ?_⟩
  unfold mLm at o
  split at o
  · rename_i xs e
    obtain ⟨a, vs, e1, h1, h2, _, _⟩ := S.chgO e
    refine ⟨_, e1, .inl ⟨rfl, vs, SqL.of h1⟩, ?_⟩
    refine ha.run σ H F ρ _ S ((OutS.toOut S o).imp fun ds _ o1 ws H1 s1 r1 => ?_)
    have S1 := S.same s1
    obtain ⟨a', vs', e1', h1', h2', _, k⟩ := S1.chgO e
    rw [e1] at e1'
    cases e1'
    refine f σ H1 (avo Fb F) a xs ds vs' ws _ h1' h2' r1 ((OutS.toOut S1 (o1.same s1)).imp fun ys _ o2 zs r3 => ?_)
    obtain ⟨p, S'⟩ := k r3
    exact o2 _ _ _ p S'
  · exact False.elim o
/-- x[j] = e, x a list of one's own -/
def setG : List D → D → D → Res (List D)
  | xs, .int k, d => match ixN xs.length k with
    | some j => .ok (xs.set j d)
    | none => .bad
  | _, _, _ => .bad
def mSetIx (i : Nat) (mj me : Env → Res D) : Env → Flow := fun ρ => bindF (me ρ) ρ fun d => match ρ[i]? with
  | some (.v (.ol xs)) => bindF (mj ρ) ρ fun j => bindF (setG xs j d) ρ fun ys => .nx (ρ.set i (.v (.ol ys)))
  | _ => .bad
theorem ms_setIx (i : Nat) {p2 p3 : Pos} {mj : Env → Res D} (he : ME T Fb X e me) (hj : MB T Fb X b mj) (hN : X.N[i]? = some x := by rfl) (hv : Vis X.env.scope x := by first | exact Or.inl rfl | exact Or.inr (Or.inl rfl) | exact Or.inr (Or.inr rfl))
    (hd : (x == ("__debug__" : Str)) = false := by decide) (hcd : (x == ("__classdict__" : Str)) = false := by decide)
    (ha : ∀ v, assign (.Subscript (.Name x p2) b p3) X.env v = (do
      let ov ← holding [v] (eval (.Name x p2) X.env)
      let iv ← holding [v, ov] (eval b X.env)
      standAt p3
      holding [v, ov, iv] (setItem ov iv v)
      release [v, ov, iv] []) := by intro _; rfl)
    (hs : swapsWithSole [.Subscript (.Name x p2) b p3] e pos.line X.env = pure false := by rfl) (hw : swappedStores [.Subscript (.Name x p2) b p3] e X.env = pure none := by rfl)
    (h1 : (assignEach [.Subscript (.Name x p2) b p3] X.env).map (·.2) = [assign (.Subscript (.Name x p2) b p3) X.env] := by rfl) : MS T Fb X (.Assign [.Subscript (.Name x p2) b p3] e pos) (mSetIx i mj me) := by
  refine ⟨fun σ H F ρ De S o => (ps_asg pe_tw (pg_sub (pe_var hN hv hd hcd) pe_tw set_list ha) hs hw h1).tw ?_⟩
  refine he.run σ H F ρ _ S ((OutS.toOut S o).imp fun d _ o1 v H1 s1 r1 => ?_)
  have S1 := S.same s1
  split at o1
  · rename_i xs e
    obtain ⟨a, vs, e1, h1, h2, _, _⟩ := S1.chgO e
    refine ⟨_, e1, ?_⟩
    refine hj.run σ H1 F ρ _ S1 ((OutS.toOut S1 (o1.same s1)).imp fun j _ o2 u H2 s2 r2 => ?_)
    have S2 := S1.same s2
    obtain ⟨a', vs', e1', h1', h2', _, k⟩ := S2.chgO e
    rw [e1] at e1'
    cases e1'
    have o3 := OutS.toOut S2 (o2.same s2)
    cases j with
    | int kk =>
      have r2 : u = V.int kk := r2
      have o3 : Out X T σ H2 (match ixN xs.length kk with
        | some j => Res.ok (xs.set j d)
        | none => .bad) _ := o3
      cases q : ixN xs.length kk with
      | none => rw [q] at o3; exact False.elim o3
      | some j =>
        rw [q] at o3
        refine ⟨a, vs', kk, j, rfl, r2, h1', by rw [h2'.length]; exact q, ?_⟩
        obtain ⟨p, S'⟩ := k (h2'.set j (r1.same s2))
        exact o3 _ _ _ p S'
    | _ => exact False.elim o3
  · exact False.elim o1
end
end Cr
/-! Core, part 8: targets, for, while. -/
namespace Cr
open PySem PySem.Spec PyProof.Rows L2
def Only (vs : List Nat) (σ σ' : L2.St) : Prop := σ'.length = σ.length ∧ ∀ j, j ∉ vs → σ'[j]? = σ[j]?
theorem Only.refl (vs : List Nat) (σ : L2.St) : Only vs σ σ := ⟨rfl, fun _ _ => rfl⟩
theorem Only.trans {vs : List Nat} {σ σ1 σ2 : L2.St} (a : Only vs σ σ1) (b : Only vs σ1 σ2) : Only vs σ σ2 := ⟨b.1.trans a.1, fun j h => (b.2 j h).trans (a.2 j h)⟩
theorem Only.set {vs : List Nat} {i : Nat} (h : i ∈ vs) (σ : L2.St) (o : Option V) : Only vs σ (σ.set i o) := ⟨List.length_set, fun j hj => List.getElem?_set_ne fun z => hj (by rw [← z]; exact h)⟩
def TWg (X : Cx) (tg : Expr) : TG := fun v σ H Q => ∀ (pins : List (Addr × Obj)) (s : Shared) (u : Value), Inv X pins σ H s → RelV v u → wpAny (model X.prog X.w) X.A (assign tg X.env u) (fun _ s' => ∃ σ' H', Inv X pins σ' H' s' ∧ Q σ' H') X.xe s
def TWgs (X : Cx) (ts : List Expr) : TGs := fun vs σ H Q => ∀ (pins : List (Addr × Obj)) (s : Shared) (us : List Value), Inv X pins σ H s → Vals vs us → wpAny (model X.prog X.w) X.A (assignInOrder ((assignEach ts X.env).map (·.2)) us) (fun _ s' => ∃ σ' H', Inv X pins σ' H' s' ∧ Q σ' H') X.xe s
theorem pg_tw {X : Cx} {tg : Expr} : PG X tg (TWg X tg) := ⟨fun pins s σ H v u Q I r h => h pins s u I r⟩
theorem pgs_tw {X : Cx} {ts : List Expr} : PGs X ts (TWgs X ts) := ⟨fun pins s σ H vs us Q I r h => h pins s us I r⟩
theorem _root_.L2.PG.tw {X : Cx} {tg : Expr} {t : TG} {v : V} {σ : L2.St} {H : Hp} {Q : L2.St → Hp → Prop} (h : PG X tg t) (q : t v σ H Q) : TWg X tg v σ H Q := fun pins s u I r => h.run pins s σ H v u Q I r q
theorem _root_.L2.PGs.tw {X : Cx} {ts : List Expr} {t : TGs} {vs : List V} {σ : L2.St} {H : Hp} {Q : L2.St → Hp → Prop} (h : PGs X ts t) (q : t vs σ H Q) : TWgs X ts vs σ H Q := fun pins s us I r => h.run pins s σ H vs us Q I r q
section
variable (T : CT) (Fb : Gh) (X : Cx)
structure MG (tg : Expr) (vs : List Nat) (g : D → Env → Option Env) : Prop where
  run : ∀ (σ : L2.St) (H : Hp) (F : List Addr) (ρ ρ' : Env) (d : D) (v : V) (Q : L2.St → Hp → Prop), StR (gx X T) Fb H σ ρ F → Rep (gx X T) H (avo Fb F) d v → g d ρ = some ρ' →
    (∀ σ', Only vs σ σ' → StR (gx X T) Fb H σ' ρ' F → Q σ' H) → TWg X tg v σ H Q
structure MGs (ts : List Expr) (vs : List Nat) (g : List D → Env → Option Env) : Prop where
  run : ∀ (σ : L2.St) (H : Hp) (F : List Addr) (ρ ρ' : Env) (ds : List D) (ws : List V) (Q : L2.St → Hp → Prop), StR (gx X T) Fb H σ ρ F → RepL (gx X T) H (avo Fb F) ds ws → g ds ρ = some ρ' →
    (∀ σ', Only vs σ σ' → StR (gx X T) Fb H σ' ρ' F → Q σ' H) → TWgs X ts ws σ H Q
end
section
variable {T : CT} {Fb : Gh} {X : Cx} {e a b c o : Expr} {es : List Expr} {st : Stmt} {rest : List Stmt} {me ma : Env → Res D} {m m' : Env → Flow} {pos p apos : Pos} {x : Str} {k n : Nat} {vs : List Nat}
def gN (i : Nat) : D → Env → Option Env := fun d ρ => if okS ρ i = true then some (ρ.set i (.v (.d d))) else none
def gS0 : List D → Env → Option Env := fun ds ρ => match ds with
  | [] => some ρ
  | _ => none
def gSc (g : D → Env → Option Env) (gs : List D → Env → Option Env) : List D → Env → Option Env := fun ds ρ => match ds with
  | [] => none
  | d :: ds => match g d ρ with
    | some ρ1 => gs ds ρ1
    | none => none
def gT (gs : List D → Env → Option Env) : D → Env → Option Env := fun d ρ => match d with
  | .tup xs => gs xs ρ
  | _ => none
def gL (gs : List D → Env → Option Env) : D → Env → Option Env := fun d ρ => match d with
  | .lst xs => gs xs ρ
  | _ => none
theorem mg_name (i : Nat) (hN : X.N.Nodup) (hm : i ∈ vs := by decide) (hi : X.N[i]? = some x := by rfl) (hx : Loc X.env.scope x := by first | exact Or.inl rfl | exact Or.inr rfl)
    (hf : X.fn x = true ∨ X.env.scope.names.lookup x = some .local := by first | exact .inl rfl | exact .inr rfl | assumption) : MG T Fb X (.Name x pos) vs (gN i) := by
  refine ⟨fun σ H F ρ ρ' d v Q S r e h => (pg_name hN hi hx hf).tw ?_⟩
  unfold gN at e
  by_cases hl : okS ρ i = true
  · rw [if_pos hl] at e
    cases e
    exact h _ (Only.set hm σ _) (S.setD hl r)
  · rw [if_neg hl] at e; cases e
theorem mgs_nil : MGs T Fb X [] vs gS0 := by
  refine ⟨fun σ H F ρ ρ' ds ws Q S r e h => pgs_nil.tw ?_⟩
  cases ds with
  | nil =>
    cases e
    exact ⟨r, h σ (Only.refl vs σ) S⟩
  | cons d ds => cases e
theorem mgs_cons {g : D → Env → Option Env} {gs : List D → Env → Option Env} (h1 : MG T Fb X e vs g) (h2 : MGs T Fb X es vs gs) (hs : (assignEach (e :: es) X.env).map (·.2) = assign e X.env :: (assignEach es X.env).map (·.2) := by rfl) : MGs T Fb X (e :: es) vs (gSc g gs) := by
  refine ⟨fun σ H F ρ ρ' ds ws Q S r eq h => (pgs_cons pg_tw pgs_tw hs).tw ?_⟩
  cases ds with
  | nil => cases eq
  | cons d ds =>
    obtain ⟨v, vr, rfl, r1, r2⟩ := r
    refine ⟨v, vr, rfl, ?_⟩
    have eq : (match g d ρ with
      | some ρ1 => gs ds ρ1
      | none => none) = some ρ' := eq
    cases q : g d ρ with
    | none => rw [q] at eq; cases eq
    | some ρ1 =>
      rw [q] at eq
      exact h1.run σ H F ρ ρ1 d v _ S r1 q fun σ1 on1 S1 => h2.run σ1 H F ρ1 ρ' ds vr _ S1 r2 eq fun σ2 on2 S2 => h σ2 (on1.trans on2) S2
theorem RepL.of_len {G : Gx} {H : Hp} {Av : Addr → Prop} {ds : List D} {vs : List V} (r : RepL G H Av ds vs) {n : Nat} (h : ds.length = n) : vs.length = n := by rw [r.length, h]
theorem mg_tup {j : Nat} {gs : List D → Env → Option Env} (hc : X.calm = true) (h : MGs T Fb X es vs gs) (hlen : ∀ ds ρ ρ', gs ds ρ = some ρ' → ds.length = n) (hn : (assignEach es X.env).length = n := by rfl) (hst : (assignEach es X.env).findIdx? (·.1) = none := by rfl) :
    MG T Fb X (.Tuple es j pos) vs (gT gs) := by
  refine ⟨fun σ H F ρ ρ' d v Q S r eq hQ => (pg_tup hc pgs_tw hn hst).tw ?_⟩
  cases d with
  | tup xs =>
    obtain ⟨a, ws, rfl, h1, h2⟩ := r
    exact ⟨a, ws, rfl, tup_sq h1, h2.of_len (hlen _ _ _ eq), h.run σ H F ρ ρ' xs ws Q S h2 eq hQ⟩
  | _ => cases eq
theorem mg_lst {j : Nat} {gs : List D → Env → Option Env} (hc : X.calm = true) (h : MGs T Fb X es vs gs) (hlen : ∀ ds ρ ρ', gs ds ρ = some ρ' → ds.length = n) (hn : (assignEach es X.env).length = n := by rfl) (hst : (assignEach es X.env).findIdx? (·.1) = none := by rfl) :
    MG T Fb X (.Tuple es j pos) vs (gL gs) := by
  refine ⟨fun σ H F ρ ρ' d v Q S r eq hQ => (pg_lst hc pgs_tw hn hst).tw ?_⟩
  cases d with
  | lst xs =>
    obtain ⟨a, ws, rfl, h1, h2⟩ := r
    exact ⟨a, ws, rfl, SqL.of h1.1, h2.of_len (hlen _ _ _ eq), h.run σ H F ρ ρ' xs ws Q S h2 eq hQ⟩
  | _ => cases eq
theorem glen_nil : ∀ ds ρ ρ', gS0 ds ρ = some ρ' → ds.length = 0 := fun ds ρ ρ' h => by
  cases ds with
  | nil => rfl
  | cons _ _ => cases h
theorem glen_cons {g : D → Env → Option Env} {gs : List D → Env → Option Env} (h : ∀ ds ρ ρ', gs ds ρ = some ρ' → ds.length = n) : ∀ ds ρ ρ', gSc g gs ds ρ = some ρ' → ds.length = n + 1 := fun ds ρ ρ' e => by
  cases ds with
  | nil => cases e
  | cons d ds =>
    have eq : (match g d ρ with
      | some ρ1 => gs ds ρ1
      | none => none) = some ρ' := e
    cases q : g d ρ with
    | none => rw [q] at eq; cases eq
    | some ρ1 => rw [q] at eq; rw [List.length_cons, h _ _ _ eq]
/-- target = e -/
def mAsg (g : D → Env → Option Env) (m : Env → Res D) : Env → Flow := fun ρ => bindF (m ρ) ρ fun d => match g d ρ with
  | some ρ' => .nx ρ'
  | none => .bad
theorem ms_asg {g : D → Env → Option Env} {tg : Expr} (he : ME T Fb X e me) (hg : MG T Fb X tg vs g) (hs : swapsWithSole [tg] e pos.line X.env = pure false := by rfl) (hw : swappedStores [tg] e X.env = pure none := by rfl)
    (h1 : (assignEach [tg] X.env).map (·.2) = [assign tg X.env] := by rfl) : MS T Fb X (.Assign [tg] e pos) (mAsg g me) := by
  refine ⟨fun σ H F ρ De S o => (ps_asg pe_tw pg_tw hs hw h1).tw ?_⟩
  refine he.run σ H F ρ _ S ((OutS.toOut S o).imp fun d _ o1 v H1 s1 r1 => ?_)
  cases q : g d ρ with
  | none =>
    have o1 : OutS X T Fb De H F (match g d ρ with
      | some ρ' => .nx ρ'
      | none => .bad) := o1
    rw [q] at o1; exact False.elim o1
  | some ρ' =>
    have o1 : OutS X T Fb De H F (match g d ρ with
      | some ρ' => .nx ρ'
      | none => .bad) := o1
    rw [q] at o1
    exact hg.run σ H1 F ρ ρ' d v _ (S.same s1) r1 q fun σ2 _ S2 => o1 _ _ _ (Post.of_same s1) S2
/-- a, b = x, y with plain local names -/
def mPar (i j : Nat) (ms : Env → Res (List D)) : Env → Flow := fun ρ => bindF (ms ρ) ρ fun ds => match ds with
  | [d, d2] => if okS ρ i = true ∧ okS (ρ.set i (.v (.d d))) j = true then .nx ((ρ.set i (.v (.d d))).set j (.v (.d d2))) else .bad
  | _ => .bad
theorem ms_par (i j : Nat) {y : Str} {px py pt : Pos} {kt k2 : Nat} {pt2 : Pos} {ms : Env → Res (List D)} (hc : X.calm = true) (hN : X.N.Nodup) (ha : ML T Fb X [a, b] ms) (hi : X.N[i]? = some x := by rfl) (hj : X.N[j]? = some y := by rfl) (hij : i ≠ j := by decide)
    (hx : X.env.scope.names.lookup x = some .local := by rfl) (hy : X.env.scope.names.lookup y = some .local := by rfl)
    (hw : swappedStores [.Tuple [.Name x px, .Name y py] kt pt] (.Tuple [a, b] k2 pt2) X.env = pure (some [x, y]) := by rfl)
    (hs : swapsWithSole [.Tuple [.Name x px, .Name y py] kt pt] (.Tuple [a, b] k2 pt2) pos.line X.env = pure false := by rfl) : MS T Fb X (.Assign [.Tuple [.Name x px, .Name y py] kt pt] (.Tuple [a, b] k2 pt2) pos) (mPar i j ms) := by
  refine ⟨fun σ H F ρ De S o => (ps_par hc hN hi hj hij hx hy pa_tw hw hs).tw ?_⟩
  refine ha.run σ H F ρ _ S ((OutS.toOut S o).imp fun ds _ o1 ws H1 s1 r1 => ?_)
  match ds, o1 with
  | [d, d2], o1 =>
    obtain ⟨⟨l1, l2⟩, o2⟩ := OutS.if o1
    obtain ⟨v, vr, rfl, r2, w, vr2, rfl, r3, r4⟩ := r1
    have r4 : vr2 = [] := r4
    subst r4
    refine ⟨v, w, rfl, ?_⟩
    exact o2 _ _ _ (Post.of_same s1) (((S.same s1).setD l1 r2).setD l2 r3)
/-- x op= e -/
theorem ms_aug (i : Nat) {op : Operator} {g : D → D → Res D} {p' : Pos} {mb : Env → Res D} (hN : X.N.Nodup) (ho : OpM T X (inplaceOp op) g) (hb : MB T Fb X e mb) (hi : X.N[i]? = some x := by rfl) (hx : Loc X.env.scope x := by first | exact Or.inl rfl | exact Or.inr rfl)
    (hf : X.fn x = true ∨ X.env.scope.names.lookup x = some .local := by first | exact .inl rfl | exact .inr rfl | assumption) : MS T Fb X (.AugAssign (.Name x p') op e pos) (mSet i (mBin g (mVar i) mb)) := by
  obtain ⟨r, hr, f⟩ := ho.ex
  refine ⟨fun σ H F ρ De S o => (ps_aug hN hi hx pe_tw (ti := r) (fun pins s σ H x y v u Q I r1 r2 h => hr pins s σ H x y v u Q I r1 r2 h) hf).tw ?_⟩
  have o1 := OutS.toOut S o
  have o2 := o1.bind
  unfold mVar at o2
  split at o2
  · rename_i d e1
    obtain ⟨o', p, e2, r1, _⟩ := S.slot e1
    obtain ⟨v, rfl, r1⟩ := r1
    refine ⟨v, e2, ?_⟩
    have o2 : Out X T σ H (mb ρ >>= fun y => g d y) _ := o2
    refine hb.run σ H F ρ _ S (o2.bind.imp fun y _ o3 w H1 s1 r3 => ?_)
    refine f σ H1 (avo Fb F) d y v w _ (S.same s1).av (r1.2.same s1).b r3 ((o3.same s1).imp fun z _ o4 u H2 s2 r4 => ?_)
    obtain ⟨hl, o5⟩ := OutS.put o4
    exact o5 _ _ F (Post.of_same (s1.trans s2)) (((S.same s1).same s2).setD hl r4)
  · exact False.elim o2
end
end Cr
/-! Core, part 9: what is walked; for, while, comprehensions. -/
namespace Cr
open PySem PySem.Spec PyProof.Rows L2
structure ItOk (G : Gx) (J : It) (xs : List D) (P : Hp → (Addr → Prop) → Prop) : Prop where
  same : ∀ {H H' : Hp} {Av : Addr → Prop}, P H Av → Same H H' → P H' Av
  new : ∀ {H : Hp} {Av : Addr → Prop} {p : Addr} {o : HO}, P H Av → H p = none → P (upd H p o) (fun a => a = p ∨ Av a)
  go : ∀ {H : Hp} {Av : Addr → Prop} {i : Nat}, P H Av → i < xs.length → J.go i H
  stop : ∀ {H : Hp} {Av : Addr → Prop} {i : Nat}, P H Av → xs.length ≤ i → J.stop i H
  yld : ∀ {H : Hp} {Av : Addr → Prop} {i : Nat} {x : V} {H' : Hp} {d : D}, P H Av → (∀ a, Av a → H a ≠ none) → xs[i]? = some d → J.yld i H x H' → Same H H' ∧ Rep G H' Av d x
def ItFz (P : Hp → (Addr → Prop) → Prop) : Prop := ∀ {H H' : Hp} {Av Av' : Addr → Prop}, P H Av → Kept H H' Av Av' → P H' Av'
section
variable (T : CT) (Fb : Gh) (X : Cx)
/-- what a for walks: it stands whatever the body does to its own -/
structure MI (tg iter : Expr) (m : Env → Res (List D)) : Prop where
  ex : ∃ wi : TI, PI X tg iter wi ∧ ∀ (σ : L2.St) (H : Hp) (F : List Addr) (ρ : Env) (R : It → Hp → Prop), StR (gx X T) Fb H σ ρ F →
    Out X T σ H (m ρ) (fun xs => ∀ J H' P, Same H H' → ItOk (gx X T) J xs P → ItFz P → P H' (avo Fb F) → R J H') → wi σ H R
/-- what a comprehension walks -/
structure MIb (tg iter : Expr) (m : Env → Res (List D)) : Prop where
  ex : ∃ wi : TI, PI X tg iter wi ∧ ∀ (σ : L2.St) (H : Hp) (F : List Addr) (ρ : Env) (R : It → Hp → Prop), StR (gx X T) Fb H σ ρ F →
    Out X T σ H (m ρ) (fun xs => ∀ J H' P, Same H H' → ItOk (gx X T) J xs P → P H' (avo Fb F) → R J H') → wi σ H R
end
theorem MI.b {T : CT} {Fb : Gh} {X : Cx} {tg iter : Expr} {m : Env → Res (List D)} (h : MI T Fb X tg iter m) : MIb T Fb X tg iter m := by
  obtain ⟨wi, hp, f⟩ := h.ex
  exact ⟨wi, hp, fun σ H F ρ R S o => f σ H F ρ R S (o.imp fun xs _ g J H' P s i _ p => g J H' P s i p)⟩
section
variable {G : Gx}
theorem SqL.val {K : PySem.W.Frag} {H : Hp} {a : Addr} {xs : List V} (h : H a = some (.lst xs)) : SqL K H a xs := SqL.of h
theorem it_lst {a : Addr} {xs : List D} : ItOk G (Itl G.K a) xs (fun H Av => ∃ vs, H a = some (.lst vs) ∧ RepL G H Av xs vs) where
  same := fun ⟨vs, h1, h2⟩ s => ⟨vs, s _ _ h1, h2.same s⟩
  new := fun ⟨vs, h1, h2⟩ hp => ⟨vs, by rw [upd_ne (ne_of_none h1 hp)]; exact h1, h2.new hp⟩
  go := fun {H Av i} ⟨vs, h1, h2⟩ hi => ⟨vs, vs[i]'(by rw [h2.length]; exact hi), SqL.of h1, by simp⟩
  stop := fun ⟨vs, h1, h2⟩ hi => ⟨vs, SqL.of h1, by rw [h2.length]; exact hi⟩
  yld := fun {H Av i x H' d} ⟨vs, h1, h2⟩ _ e y => by
    obtain ⟨e1, y⟩ := y
    obtain ⟨v, e2, r⟩ := h2.get e
    have e3 := y vs (SqL.of h1)
    rw [e2] at e3
    cases e3
    rw [e1]
    exact ⟨Same.refl H, r⟩
theorem it_tup {a : Addr} {xs : List D} : ItOk G (Itt G.K a) xs (fun H Av => ∃ vs, ((H a = some (.tup vs) ∧ ¬ Av a) ∨ KTup G.K a vs) ∧ RepL G H Av xs vs) where
  same := fun ⟨vs, h1, h2⟩ s => ⟨vs, h1.elim (fun q => .inl ⟨s _ _ q.1, q.2⟩) .inr, h2.same s⟩
  new := fun ⟨vs, h1, h2⟩ hp => ⟨vs, h1.elim (fun q => .inl ⟨by rw [upd_ne (ne_of_none q.1 hp)]; exact q.1, fun z => z.elim (ne_of_none q.1 hp) q.2⟩) .inr, h2.new hp⟩
  go := fun {H Av i} ⟨vs, h1, h2⟩ hi => ⟨vs, vs[i]'(by rw [h2.length]; exact hi), tup_sq h1, by simp⟩
  stop := fun ⟨vs, h1, h2⟩ hi => ⟨vs, tup_sq h1, by rw [h2.length]; exact hi⟩
  yld := fun {H Av i x H' d} ⟨vs, h1, h2⟩ _ e y => by
    obtain ⟨e1, y⟩ := y
    obtain ⟨v, e2, r⟩ := h2.get e
    have e3 := y vs (tup_sq h1)
    rw [e2] at e3
    cases e3
    rw [e1]
    exact ⟨Same.refl H, r⟩
def rangeD (lo c : Int) (n : Nat) : List D := (List.range n).map fun (i : Nat) => D.int (lo + (i : Int) * c)
theorem it_rng {lo c : Int} {n : Nat} : ItOk G (Itc lo c n) (rangeD lo c n) (fun _ _ => True) where
  same := fun _ _ => True.intro
  new := fun _ _ => True.intro
  go := fun {H Av i} _ hi => by
    have : (rangeD lo c n).length = n := by unfold rangeD; simp
    rw [this] at hi; exact hi
  stop := fun {H Av i} _ hi => by
    have : (rangeD lo c n).length = n := by unfold rangeD; simp
    rw [this] at hi; exact hi
  yld := fun {H Av i x H' d} _ _ e y => by
    obtain ⟨e1, e2⟩ := y
    rw [e1, e2]
    unfold rangeD at e
    rw [List.getElem?_map] at e
    cases q : (List.range n)[i]? with
    | none => rw [q] at e; cases e
    | some j =>
      rw [q] at e; cases e
      have : j = i := by
        rw [List.getElem?_range] at q
        · cases q; rfl
        · obtain ⟨h, _⟩ := List.getElem?_eq_some_iff.mp q
          simpa using h
      rw [this]
      exact ⟨Same.refl H, rfl⟩
theorem it_rng1 {lo : Int} {n : Nat} : ItOk G (Itr lo n) (rangeD lo 1 n) (fun _ _ => True) where
  same := fun _ _ => True.intro
  new := fun _ _ => True.intro
  go := fun {H Av i} h hi => (it_rng (G := G) (lo := lo) (c := 1) (n := n)).go (H := H) (Av := Av) h hi
  stop := fun {H Av i} h hi => (it_rng (G := G) (lo := lo) (c := 1) (n := n)).stop (H := H) (Av := Av) h hi
  yld := fun {H Av i x H' d} h hav e y => (it_rng (G := G) (lo := lo) (c := 1) (n := n)).yld h hav e ⟨y.1, by rw [Int.mul_one]; exact y.2⟩
def zipD (xs ys : List D) : List D := List.zipWith (fun a b => .tup [a, b]) xs ys
theorem it_zip {a b : Addr} {xs ys : List D} : ItOk G (Itz G.K a b) (zipD xs ys) (fun H Av => ∃ vs ws, H a = some (.lst vs) ∧ H b = some (.lst ws) ∧ RepL G H Av xs vs ∧ RepL G H Av ys ws) where
  same := fun ⟨vs, ws, h1, h2, h3, h4⟩ s => ⟨vs, ws, s _ _ h1, s _ _ h2, h3.same s, h4.same s⟩
  new := fun ⟨vs, ws, h1, h2, h3, h4⟩ hp => ⟨vs, ws, by rw [upd_ne (ne_of_none h1 hp)]; exact h1, by rw [upd_ne (ne_of_none h2 hp)]; exact h2, h3.new hp, h4.new hp⟩
  go := fun {H Av i} ⟨vs, ws, h1, h2, h3, h4⟩ hi => by
    unfold zipD at hi
    rw [List.length_zipWith] at hi
    have l1 : i < vs.length := by rw [h3.length]; omega
    have l2 : i < ws.length := by rw [h4.length]; omega
    exact ⟨vs, ws, vs[i], ws[i], SqL.of h1, SqL.of h2, by simp, by simp⟩
  stop := fun {H Av i} ⟨vs, ws, h1, h2, h3, h4⟩ hi => by
    unfold zipD at hi
    rw [List.length_zipWith] at hi
    refine ⟨vs, ws, SqL.of h1, SqL.of h2, ?_⟩
    rw [h3.length, h4.length]
    omega
  yld := fun {H Av i x H' d} ⟨vs, ws, h1, h2, h3, h4⟩ hav e y => by
    obtain ⟨t, u, v, rfl, ht, rfl, y1, y2⟩ := y
    unfold zipD at e
    rw [List.getElem?_zipWith] at e
    cases q1 : xs[i]? with
    | none => rw [q1] at e; cases e
    | some d1 =>
      cases q2 : ys[i]? with
      | none => rw [q1, q2] at e; cases e
      | some d2 =>
        rw [q1, q2] at e
        cases e
        obtain ⟨v1, e1, r1⟩ := h3.get q1
        obtain ⟨v2, e2, r2⟩ := h4.get q2
        have e3 := y1 vs (SqL.of h1)
        have e4 := y2 ws (SqL.of h2)
        rw [e1] at e3
        rw [e2] at e4
        cases e3
        cases e4
        have s := same_upd (o := .tup [u, v]) ht
        exact ⟨s, t, [u, v], rfl, .inl ⟨upd_same, fun z => absurd ht (hav t z)⟩, u, [v], rfl, r1.same s, v, [], rfl, r2.same s, rfl⟩
end
section
variable {T : CT} {Fb : Gh} {X : Cx} {e a b c o tg iter elt : Expr} {es ifs : List Expr} {st : Stmt} {rest body : List Stmt} {me ma mb' : Env → Res D} {m m' mb : Env → Flow} {pos p apos : Pos} {x : Str} {k n : Nat} {vs : List Nat}
def lstOf : D → Res (List D)
  | .lst xs => .ok xs
  | _ => .bad
def tupOf : D → Res (List D)
  | .tup xs => .ok xs
  | _ => .bad
theorem mi_list (h : ME T Fb X e me) : MI T Fb X tg e (mUnF lstOf me) := by
  refine ⟨_, pi_list pe_tw, fun σ H F ρ R S o => ?_⟩
  refine h.run σ H F ρ _ S (o.bind.imp fun d _ o1 v H1 s r => ?_)
  cases d with
  | lst xs =>
    obtain ⟨a, vs, rfl, ⟨h1, na⟩, h2⟩ := r
    refine ⟨a, rfl, ⟨vs, SqL.of h1⟩, o1 _ H1 (fun H Av => ¬ Av a ∧ ∃ vs, H a = some (.lst vs) ∧ RepL (gx X T) H Av xs vs) s ?_ ?_ ⟨na, vs, h1, h2⟩⟩
    · exact ⟨fun p s => ⟨p.1, it_lst.same p.2 s⟩, fun {H Av q o} p hq => ⟨fun z => z.elim (fun e => by obtain ⟨vs, h1, _⟩ := p.2; exact ne_of_none h1 hq e) p.1, it_lst.new (G := gx X T) p.2 hq⟩, fun p hi => it_lst.go (G := gx X T) p.2 hi, fun p hi => it_lst.stop (G := gx X T) p.2 hi, fun p hav e y => it_lst.yld p.2 hav e y⟩
    · exact fun {H H' Av Av'} p k => by
        obtain ⟨na, vs, h1, h2⟩ := p
        exact ⟨k.no h1 na, vs, k.keep _ _ h1 na, RepL.mono k _ h2⟩
  | _ => exact False.elim o1
theorem mib_list (h : MB T Fb X e me) : MIb T Fb X tg e (mUnF lstOf me) := by
  refine ⟨_, pi_list pe_tw, fun σ H F ρ R S o => ?_⟩
  refine h.run σ H F ρ _ S (o.bind.imp fun d _ o1 v H1 s r => ?_)
  cases d with
  | lst xs =>
    obtain ⟨a, vs, rfl, h1, h2⟩ := r
    exact ⟨a, rfl, ⟨vs, SqL.of h1⟩, o1 _ H1 _ s it_lst ⟨vs, h1, h2⟩⟩
  | _ => exact False.elim o1
theorem mi_tup (h : ME T Fb X e me) : MI T Fb X tg e (mUnF tupOf me) := by
  refine ⟨_, pi_tup pe_tw, fun σ H F ρ R S o => ?_⟩
  refine h.run σ H F ρ _ S (o.bind.imp fun d _ o1 v H1 s r => ?_)
  cases d with
  | tup xs =>
    obtain ⟨a, vs, rfl, h1, h2⟩ := r
    refine ⟨a, rfl, ⟨vs, tup_sq h1⟩, o1 _ H1 _ s it_tup ?_ ⟨vs, h1, h2⟩⟩
    exact fun {H H' Av Av'} p k => by
      obtain ⟨vs, h1, h2⟩ := p
      exact ⟨vs, h1.elim (fun q => .inl ⟨k.keep _ _ q.1 q.2, k.no q.1 q.2⟩) .inr, RepL.mono k _ h2⟩
  | _ => exact False.elim o1
theorem fz_true : ItFz (fun _ _ => True) := fun _ _ => True.intro
def rng1 : List D → Res (List D)
  | [.int n] => if -(2 ^ 62) ≤ n ∧ n < 2 ^ 62 then .ok (rangeD 0 1 n.toNat) else .bad
  | _ => .bad
def rng2 : List D → Res (List D)
  | [.int lo, .int hi] => if -(2 ^ 62) ≤ lo ∧ lo < 2 ^ 62 ∧ -(2 ^ 62) ≤ hi ∧ hi < 2 ^ 62 then .ok (rangeD lo 1 (hi - lo).toNat) else .bad
  | _ => .bad
/-- range(a, b, -1) -/
def rng3 : List D → Res (List D)
  | [.int lo, .int hi, .int c] => if c = -1 ∧ -(2 ^ 62) ≤ lo ∧ lo < 2 ^ 62 ∧ -(2 ^ 62) ≤ hi ∧ hi < 2 ^ 62 then .ok (rangeD lo (-1) (lo - hi).toNat) else .bad
  | _ => .bad
theorem mi_range1 {ms : Env → Res (List D)} (hm : X.mg "range" = none) (ha : ML T Fb X [a] ms) (hg : Gl X "range" := by rfl) (hs : starEach [a] X.env = [(false, eval a X.env)] := by rfl) : MI T Fb X tg (.Call (.Name "range" p) [a] [] pos) (mArg rng1 ms) := by
  refine ⟨_, pi_range1 hg hm pa_tw hs, fun σ H F ρ R S o => ?_⟩
  refine ha.run σ H F ρ _ S (o.bind.imp fun ds _ o1 ws H1 s r => ?_)
  match ds, o1 with
  | [.int n], o1 =>
    obtain ⟨⟨h1, h2⟩, f⟩ := o1.if
    obtain ⟨v, vr, rfl, r1, r2⟩ := r
    have r1 : v = V.int n := r1
    have r2 : vr = [] := r2
    subst r1 r2
    exact ⟨n, rfl, h1, h2, f _ _ _ s it_rng1 fz_true True.intro⟩
theorem mi_range2 {ms : Env → Res (List D)} (hm : X.mg "range" = none) (ha : ML T Fb X [a, b] ms) (hg : Gl X "range" := by rfl) (hs : starEach [a, b] X.env = [(false, eval a X.env), (false, eval b X.env)] := by rfl) (hs2 : starEach [b] X.env = [(false, eval b X.env)] := by rfl) :
    MI T Fb X tg (.Call (.Name "range" p) [a, b] [] pos) (mArg rng2 ms) := by
  refine ⟨_, pi_range2 hg hm pa_tw hs hs2, fun σ H F ρ R S o => ?_⟩
  refine ha.run σ H F ρ _ S (o.bind.imp fun ds _ o1 ws H1 s r => ?_)
  match ds, o1 with
  | [.int lo, .int hi], o1 =>
    obtain ⟨hc, f⟩ := o1.if
    obtain ⟨v, vr, rfl, r1, w, vr2, rfl, r2, r3⟩ := r
    have r1 : v = V.int lo := r1
    have r2 : w = V.int hi := r2
    have r3 : vr2 = [] := r3
    subst r1 r2 r3
    exact ⟨lo, hi, rfl, hc, f _ _ _ s it_rng1 fz_true True.intro⟩
theorem mi_range3 {ms : Env → Res (List D)} (hm : X.mg "range" = none) (ha : ML T Fb X [a, b, c] ms) (hg : Gl X "range" := by rfl) (hs : starEach [a, b, c] X.env = (false, eval a X.env) :: starEach [b, c] X.env := by rfl) (hpl : (backTo pos (starEach [b, c] X.env)).any (·.1) = false := by rfl) :
    MI T Fb X tg (.Call (.Name "range" p) [a, b, c] [] pos) (mArg rng3 ms) := by
  refine ⟨_, pi_range3 hg hm pa_tw hs hpl, fun σ H F ρ R S o => ?_⟩
  refine ha.run σ H F ρ _ S (o.bind.imp fun ds _ o1 ws H1 s r => ?_)
  match ds, o1 with
  | [.int lo, .int hi, .int cc], o1 =>
    obtain ⟨⟨hc, h1, h2, h3, h4⟩, f⟩ := o1.if
    subst hc
    obtain ⟨v, vr, rfl, r1, w, vr2, rfl, r2, u, vr3, rfl, r3, r4⟩ := r
    have r1 : v = V.int lo := r1
    have r2 : w = V.int hi := r2
    have r3 : u = V.int (-1) := r3
    have r4 : vr3 = [] := r4
    subst r1 r2 r3 r4
    exact ⟨lo, hi, -1, _, rfl, RgC.neg h1 h2 h3 h4, f _ _ _ s it_rng fz_true True.intro⟩
def zipL : List D → Res (List D)
  | [.lst xs, .lst ys] => .ok (zipD xs ys)
  | _ => .bad
theorem mi_zip {elts : List Expr} {kk : Nat} {tpos : Pos} {ms : Env → Res (List D)} (hm : X.mg "zip" = none) (ha : ML T Fb X [a, b] ms) (hg : Gl X "zip" := by rfl)
    (hs : starEach [a, b] X.env = (false, eval a X.env) :: starEach [b] X.env := by rfl) (hpl : (backTo pos (starEach [b] X.env)).any (·.1) = false := by rfl) : MI T Fb X (.Tuple elts kk tpos) (.Call (.Name "zip" p) [a, b] [] pos) (mArg zipL ms) := by
  refine ⟨_, pi_zip hg hm pa_tw hs hpl, fun σ H F ρ R S o => ?_⟩
  refine ha.run σ H F ρ _ S (o.bind.imp fun ds _ o1 ws H1 s r => ?_)
  match ds, o1 with
  | [.lst xs, .lst ys], o1 =>
    obtain ⟨v, vr, rfl, ⟨p1, us, rfl, ⟨h1, n1⟩, r1⟩, w, vr2, rfl, ⟨p2, us2, rfl, ⟨h2, n2⟩, r2⟩, r3⟩ := r
    have r3 : vr2 = [] := r3
    subst r3
    refine ⟨p1, p2, us, us2, rfl, SqL.of h1, SqL.of h2, o1 _ H1 (fun H Av => (¬ Av p1 ∧ ¬ Av p2) ∧ ∃ vs ws, H p1 = some (.lst vs) ∧ H p2 = some (.lst ws) ∧ RepL (gx X T) H Av xs vs ∧ RepL (gx X T) H Av ys ws) s ?_ ?_ ⟨⟨n1, n2⟩, us, us2, h1, h2, r1, r2⟩⟩
    · exact ⟨fun p s => ⟨p.1, it_zip.same p.2 s⟩, fun {H Av q o} p hq => ⟨⟨fun z => z.elim (fun e => by obtain ⟨vs, ws, h1, _⟩ := p.2; exact ne_of_none h1 hq e) p.1.1, fun z => z.elim (fun e => by obtain ⟨vs, ws, _, h1, _⟩ := p.2; exact ne_of_none h1 hq e) p.1.2⟩, it_zip.new (G := gx X T) p.2 hq⟩, fun p hi => it_zip.go (G := gx X T) p.2 hi, fun p hi => it_zip.stop (G := gx X T) p.2 hi, fun p hav e y => it_zip.yld p.2 hav e y⟩
    · exact fun {H H' Av Av'} p k => by
        obtain ⟨⟨n1, n2⟩, vs, ws, h1, h2, h3, h4⟩ := p
        exact ⟨⟨k.no h1 n1, k.no h2 n2⟩, vs, ws, k.keep _ _ h1 n1, k.keep _ _ h2 n2, RepL.mono k _ h3, RepL.mono k _ h4⟩
/-! ### for -/
def forL (g : D → Env → Option Env) (mb : Env → Flow) : List D → Env → Flow
  | [], ρ => .nx ρ
  | x :: xs, ρ => match g x ρ with
    | none => .bad
    | some ρ1 => match mb ρ1 with
      | .nx ρ2 => forL g mb xs ρ2
      | f => f
def mFor (mi : Env → Res (List D)) (g : D → Env → Option Env) (mb : Env → Flow) : Env → Flow := fun ρ => bindF (mi ρ) ρ fun xs => forL g mb xs ρ
theorem ms_for {mi : Env → Res (List D)} {g : D → Env → Option Env} (hp : PassesOwn (model X.prog X.w) X.A X.env X.xe) (hc : X.calm = true) (hi : MI T Fb X tg iter mi) (hg : MG T Fb X tg vs g) (hb : MSs T Fb X body mb) (hs : ∀ x, foldedSetIterable iter X.env x = pure x := by intro _; rfl) :
    MS T Fb X (.For tg iter body [] pos) (mFor mi g mb) := by
  obtain ⟨wi, hpi, f⟩ := hi.ex
  refine ⟨fun σ H F ρ De S o => (ps_for hp hc hpi pg_tw pss_tw hs).tw ?_⟩
  refine f σ H F ρ _ S ((OutS.toOut S o).imp fun xs _ o1 J H1 P s1 it fz hp1 => ?_)
  refine ⟨fun i m σ' H' => m = xs.length - i ∧ i ≤ xs.length ∧ ∃ ρi Fi, StR (gx X T) Fb H' σ' ρi Fi ∧ P H' (avo Fb Fi) ∧ OutS X T Fb De H' Fi (forL g mb (xs.drop i) ρi), ⟨xs.length, rfl, Nat.zero_le _, ρ, F, S.same s1, hp1, o1.same s1⟩, ?_⟩
  rintro i m σ' H' ⟨rfl, hi, ρi, Fi, Si, Pi, oi⟩
  by_cases hlt : i < xs.length
  · refine .inr ⟨it.go Pi hlt, fun σ'' H'' => ∃ ρj Fj, StR (gx X T) Fb H'' σ'' ρj Fj ∧ P H'' (avo Fb Fj) ∧ OutS X T Fb De H'' Fj (forL g mb (xs.drop (i + 1)) ρj), fun σ'' H'' q => ⟨xs.length - (i + 1), by omega, rfl, hlt, q⟩, fun x H2 y => ?_⟩
    rw [List.drop_eq_getElem_cons hlt] at oi
    obtain ⟨s2, rx⟩ := it.yld Pi Si.av (List.getElem?_eq_getElem hlt) y
    have oi : OutS X T Fb De H' Fi (match g xs[i] ρi with
      | none => .bad
      | some ρ1 => match mb ρ1 with
        | .nx ρ2 => forL g mb (xs.drop (i + 1)) ρ2
        | f => f) := oi
    cases q : g xs[i] ρi with
    | none => rw [q] at oi; exact False.elim oi
    | some ρ1 =>
      rw [q] at oi
      have oi : OutS X T Fb De H' Fi (match mb ρ1 with
        | .nx ρ2 => forL g mb (xs.drop (i + 1)) ρ2
        | f => f) := oi
      refine hg.run σ' H2 Fi ρi ρ1 _ x _ (Si.same s2) rx q fun σ3 on S3 => ?_
      have p3 : Post H' Fi H2 Fi := Post.of_same s2
      refine hb.run σ3 H2 Fi ρ1 _ S3 ?_
      cases q2 : mb ρ1 with
      | nx ρ2 =>
        rw [q2] at oi
        exact fun σ4 H4 F4 p4 S4 => ⟨ρ2, F4, S4, fz Pi (p3.trans p4).kept, oi.post (p3.trans p4)⟩
      | rt d ρ2 => rw [q2] at oi; exact fun v σ4 H4 F4 p4 S4 r => oi v σ4 H4 F4 (p3.trans p4) S4 r
      | er z ρ2 =>
        rw [q2] at oi
        obtain ⟨W, tk, h⟩ := oi
        exact ⟨W, tk, fun cls d σ4 H4 F4 p4 S4 r => h cls d σ4 H4 F4 (p3.trans p4) S4 r⟩
      | bad => rw [q2] at oi; exact oi
  · have e : i = xs.length := by omega
    subst e
    rw [List.drop_length] at oi
    exact .inl ⟨it.stop Pi (Nat.le_refl _), oi σ' H' Fi Post.refl Si⟩
/-! ### while -/
def whileL (mc : Env → Res Bool) (mb : Env → Flow) : Nat → Env → Flow
  | 0, _ => .bad
  | n + 1, ρ => bindF (mc ρ) ρ fun k => match k with
    | true => match mb ρ with
      | .nx ρ' => whileL mc mb n ρ'
      | f => f
    | false => .nx ρ
theorem ms_while (n : Nat) {mc : Env → Res Bool} (hp : PassesOwn (model X.prog X.w) X.A X.env X.xe) (hc : MT T Fb X c mc) (hb : MSs T Fb X body mb) : MS T Fb X (.While c body [] pos) (whileL mc mb n) := by
  refine ⟨fun σ H F ρ De S o => (ps_while hp pt_tw pss_tw).tw ?_⟩
  refine ⟨fun m σ' H' => ∃ ρi Fi, StR (gx X T) Fb H' σ' ρi Fi ∧ OutS X T Fb De H' Fi (whileL mc mb m ρi), ⟨n, ρ, F, S, o⟩, ?_⟩
  rintro m σ' H' ⟨ρi, Fi, Si, oi⟩
  cases m with
  | zero => exact False.elim oi
  | succ m =>
    refine hc.run σ' H' Fi ρi _ Si ((OutS.toOut Si oi).imp fun k _ o1 H1 s1 => ?_)
    cases k with
    | false =>
      have o1 : OutS X T Fb De H' Fi (.nx ρi) := o1
      exact iteF (o1 σ' H1 Fi (Post.of_same s1) (Si.same s1))
    | true =>
      refine iteT ⟨fun σ'' H'' => ∃ ρj Fj, StR (gx X T) Fb H'' σ'' ρj Fj ∧ OutS X T Fb De H'' Fj (whileL mc mb m ρj), fun σ'' H'' q => ⟨m, Nat.lt_succ_self m, q⟩, ?_⟩
      have o1 : OutS X T Fb De H' Fi (match mb ρi with
        | .nx ρ' => whileL mc mb m ρ'
        | f => f) := o1
      have o2 := o1.same s1
      refine hb.run σ' H1 Fi ρi _ (Si.same s1) ?_
      cases q2 : mb ρi with
      | nx ρ2 => rw [q2] at o2; exact fun σ4 H4 F4 p4 S4 => ⟨ρ2, F4, S4, o2.post p4⟩
      | rt d ρ2 => rw [q2] at o2; exact o2
      | er z ρ2 => rw [q2] at o2; exact o2
      | bad => rw [q2] at o2; exact o2
end
end Cr
/-! Core, part 10: comprehensions. -/
namespace Cr
open PySem PySem.Spec PyProof.Rows L2
def TWts (X : Cx) (ifs : List Expr) : TT := fun σ H Q => ∀ (pins : List (Addr × Obj)) (s : Shared), Inv X pins σ H s →
    wpAny (model X.prog X.w) X.A (forIn ifs true fun c r => if r = true then do let ok ← isTrue c X.env (eval c X.env); pure (ForInStep.yield ok) else pure (ForInStep.yield r)) (TP X pins σ Q) X.xe s
structure MTs (T : CT) (Fb : Gh) (X : Cx) (ifs : List Expr) (m : Env → Res Bool) : Prop where
  run : ∀ (σ : L2.St) (H : Hp) (F : List Addr) (ρ : Env) (Q : Bool → Hp → Prop), StR (gx X T) Fb H σ ρ F →
    Out X T σ H (m ρ) (fun b => ∀ H', Same H H' → Q b H') → TWts X ifs σ H Q
def mYes : Env → Res Bool := fun _ => .ok true
section
variable {T : CT} {Fb : Gh} {X : Cx} {e a b c o tg iter elt : Expr} {es ifs : List Expr} {me : Env → Res D} {mt : Env → Res Bool} {pos p : Pos}
theorem mts_nil : MTs T Fb X [] mYes := ⟨fun σ H F ρ Q S o pins s I => pts_nil.run pins s σ H Q I (o H (Same.refl H))⟩
theorem mts_one (h : MT T Fb X c mt) : MTs T Fb X [c] mt := ⟨fun σ H F ρ Q S o pins s I => (pts_one pt_tw).run pins s σ H Q I (h.run σ H F ρ Q S o)⟩
end
/-- no error within -/
def nerr {α : Type} : Res α → Res α
  | .ok a => .ok a
  | _ => .bad
def compL (g : D → Env → Option Env) (mt : Env → Res Bool) (me : Env → Res D) (ρ : Env) : List D → Res (List D)
  | [] => .ok []
  | x :: xs => match g x ρ with
    | none => .bad
    | some ρ1 => nerr (mt ρ1) >>= fun b => match b with
      | true => nerr (me ρ1) >>= fun d => compL g mt me ρ xs >>= fun ds => .ok (d :: ds)
      | false => compL g mt me ρ xs
theorem compL_noerr {g : D → Env → Option Env} {mt : Env → Res Bool} {me : Env → Res D} {ρ : Env} : ∀ {xs : List D} {z : Exc}, compL g mt me ρ xs ≠ .err z
  | [], z, h => by cases h
  | x :: xs, z, h => by
    unfold compL at h
    split at h
    · cases h
    · rename_i ρ1 _
      cases q : mt ρ1 with
      | ok b =>
        rw [q] at h
        cases b with
        | true =>
          have h : (nerr (me ρ1) >>= fun d => compL g mt me ρ xs >>= fun ds => Res.ok (d :: ds)) = .err z := h
          cases q2 : me ρ1 with
          | ok d =>
            rw [q2] at h
            have h : (compL g mt me ρ xs >>= fun ds => Res.ok (d :: ds)) = .err z := h
            cases q3 : compL g mt me ρ xs with
            | ok ds => rw [q3] at h; cases h
            | err y => exact compL_noerr q3
            | bad => rw [q3] at h; cases h
          | err y => rw [q2] at h; cases h
          | bad => rw [q2] at h; cases h
        | false =>
          have h : compL g mt me ρ xs = .err z := h
          exact compL_noerr h
      | err y => rw [q] at h; cases h
      | bad => rw [q] at h; cases h
/-- the block's own names forgotten -/
def wipeE (ρ : Env) : List Nat → Env
  | [] => ρ
  | v :: vs => (wipeE ρ vs).set v .no
theorem StR.drop {G : Gx} {Fb : Gh} {H : Hp} {σ : L2.St} {ρ : Env} {F : List Addr} (S : StR G Fb H σ ρ F) : StR G ⟨Fb.fb, none⟩ H σ ρ F := ⟨S.ex, S.dom, S.fb, fun _ h => nomatch h⟩
theorem StR.wipe {G : Gx} {Fb : Gh} {H : Hp} {σ : L2.St} {ρ : Env} {F : List Addr} (hm : Fb.me = none) (S : StR G Fb H σ ρ F) : ∀ vs : List Nat, StR G Fb H (L2.wipe σ vs) (wipeE ρ vs) F
  | [] => S
  | v :: vs => by
    have S1 := StR.wipe hm S vs
    unfold L2.wipe wipeE
    by_cases h : v < (wipeE ρ vs).length
    · exact S1.setN h (.inl hm) rfl
    · have hl := S1.length
      rw [List.set_eq_of_length_le (by omega), List.set_eq_of_length_le (by omega)]
      exact S1
theorem wipe_at {σ : L2.St} {j : Nat} : ∀ {vs : List Nat}, j ∈ vs → j < σ.length → (L2.wipe σ vs)[j]? = some none
  | [], h, _ => by cases h
  | v :: vs, h, hl => by
    unfold L2.wipe
    by_cases e : v = j
    · subst e
      exact List.getElem?_set_self (by rw [wipe_length]; exact hl)
    · rw [List.getElem?_set_ne e]
      exact wipe_at ((List.mem_cons.mp h).resolve_left fun z => e z.symm) hl
theorem wipe_only {σ σ' : L2.St} {vs : List Nat} (h : Only vs (L2.wipe σ vs) σ') : L2.wipe σ' vs = L2.wipe σ vs := by
  refine List.ext_getElem? fun j => ?_
  have hl : σ'.length = σ.length := by rw [h.1, wipe_length]
  by_cases hj : j ∈ vs
  · by_cases hlt : j < σ.length
    · rw [wipe_at hj (by rw [hl]; exact hlt), wipe_at hj hlt]
    · rw [List.getElem?_eq_none (by rw [wipe_length, hl]; omega), List.getElem?_eq_none (by rw [wipe_length]; omega)]
  · rw [wipe_out hj, h.2 j hj]
/-- a new object: the frame must not touch it -/
theorem StR.new {G : Gx} {Fb : Gh} {H : Hp} {σ : L2.St} {ρ : Env} {F : List Addr} (S : StR G Fb H σ ρ F) {p : Addr} {o : HO} (hp : H p = none) : StR G ⟨fun a => a = p ∨ Fb.fb a, none⟩ (upd H p o) σ ρ F := by
  obtain ⟨F0, e, nd, sub⟩ := S.ex
  have s := same_upd (o := o) hp
  have k : Kept H (upd H p o) (avo Fb F) (avo ⟨fun a => a = p ∨ Fb.fb a, none⟩ F) := ⟨fun a o h _ => s a o h, fun a z => by
    rcases z with z | z | z
    · exact .inl (.inl z)
    · exact .inr (by rw [z]; exact hp)
    · exact .inl (.inr z)⟩
  refine ⟨⟨F0, e.mono k (fun a ha => same_at s (e.dom a ha)), nd, sub⟩, fun a h => by rw [same_at s (S.dom a h)]; exact S.dom a h, fun a h => ?_, fun _ h => nomatch h⟩
  rcases h with h | h
  · rw [h, upd_same]; exact ⟨fun z => (by cases z), fun z => S.dom p z hp⟩
  · exact ⟨by rw [same_at s (S.fb a h).1]; exact (S.fb a h).1, (S.fb a h).2⟩
/-- a forbidden object changes -/
theorem StR.chg {G : Gx} {Fb : Gh} {H H' : Hp} {σ : L2.St} {ρ : Env} {F : List Addr} (S : StR G Fb H σ ρ F) {p : Addr} {o : HO} (hp : Fb.fb p) : StR G Fb (upd H p o) σ ρ F := by
  obtain ⟨F0, e, nd, sub⟩ := S.ex
  have k : Kept H (upd H p o) (avo Fb F) (avo Fb F) := ⟨fun a u h n => by rw [upd_ne fun z => n (.inr (by rw [z]; exact hp))]; exact h, fun a z => .inl z⟩
  have up : ∀ b, H b ≠ none → upd H p o b ≠ none := fun b h => by
    by_cases hb : b = p
    · rw [hb, upd_same]; exact fun z => by cases z
    · rw [upd_ne hb]; exact h
  exact ⟨⟨F0, e.mono k (fun a ha => upd_ne fun z => (S.fb p hp).2 (by rw [← z]; exact sub a ha)), nd, sub⟩, fun a h => up a (S.dom a h), fun a h => ⟨up a (S.fb a h).1, (S.fb a h).2⟩, S.sf⟩
section
variable {T : CT} {Fb : Gh} {X : Cx} {tg iter elt : Expr} {ifs : List Expr} {scope : Scope} {own : List (Str × Nat)} {mi : Env → Res (List D)} {g : D → Env → Option Env} {mt : Env → Res Bool} {me : Env → Res D} {pos : Pos}
def mComp (vs : List Nat) (mi : Env → Res (List D)) (g : D → Env → Option Env) (mt : Env → Res Bool) (me : Env → Res D) : Env → Res (List D) := fun ρ => mi ρ >>= fun xs => match decide (xs.length ≤ sizeLine) with
  | true => compL g mt me (wipeE ρ vs) xs
  | false => .bad
def blkG (X : Cx) (scope : Scope) (tg : Expr) : TG := fun v σ H Q => ∀ (s0 : Shared) (H0 : Hp) (C : Addr) (cl : List (Str × Addr)) (fp : List Addr), TWg (X.blk s0 H0 scope (compEnvC scope cl C X.env) fp) tg v σ H Q
def blkT (X : Cx) (scope : Scope) (ifs : List Expr) : TT := fun σ H Q => ∀ (s0 : Shared) (H0 : Hp) (C : Addr) (cl : List (Str × Addr)) (fp : List Addr), TWts (X.blk s0 H0 scope (compEnvC scope cl C X.env) fp) ifs σ H Q
def blkE (X : Cx) (scope : Scope) (elt : Expr) : TE := fun σ H Q => ∀ (s0 : Shared) (H0 : Hp) (C : Addr) (cl : List (Str × Addr)) (fp : List Addr), TWe (X.blk s0 H0 scope (compEnvC scope cl C X.env) fp) elt σ H Q
theorem pg_blk (s0 : Shared) (H0 : Hp) (C : Addr) (cl : List (Str × Addr)) (fp : List Addr) : PG (X.blk s0 H0 scope (compEnvC scope cl C X.env) fp) tg (blkG X scope tg) := ⟨fun pins s σ H v u Q I r h => h s0 H0 C cl fp pins s u I r⟩
theorem pts_blk (s0 : Shared) (H0 : Hp) (C : Addr) (cl : List (Str × Addr)) (fp : List Addr) : PTs (X.blk s0 H0 scope (compEnvC scope cl C X.env) fp) ifs (blkT X scope ifs) := ⟨fun pins s σ H Q I h => h s0 H0 C cl fp pins s I⟩
theorem pe_blk (s0 : Shared) (H0 : Hp) (C : Addr) (cl : List (Str × Addr)) (fp : List Addr) : PE (X.blk s0 H0 scope (compEnvC scope cl C X.env) fp) elt (blkE X scope elt) := ⟨fun pins s σ H Q I h => h s0 H0 C cl fp pins s I⟩
/-- what the new list stands for, turn by turn -/
theorem comp_core {σ : L2.St} {H : Hp} {F : List Addr} {ρ : Env} {Q : VK} {wi : TI}
    (f : ∀ (σ : L2.St) (H : Hp) (F : List Addr) (ρ : Env) (R : It → Hp → Prop), StR (gx X T) Fb H σ ρ F → Out X T σ H (mi ρ) (fun xs => ∀ J H' P, Same H H' → ItOk (gx X T) J xs P → P H' (avo Fb F) → R J H') → wi σ H R)
    (hg : ∀ (s : Shared) (H : Hp) (C : Addr) (cl : List (Str × Addr)) (fp : List Addr) (Fb' : Gh), MG T Fb' (X.blk s H scope (compEnvC scope cl C X.env) fp) tg (own.map (·.2)) g)
    (ht : ∀ (s : Shared) (H : Hp) (C : Addr) (cl : List (Str × Addr)) (fp : List Addr) (Fb' : Gh), MTs T Fb' (X.blk s H scope (compEnvC scope cl C X.env) fp) ifs mt)
    (he : ∀ (s : Shared) (H : Hp) (C : Addr) (cl : List (Str × Addr)) (fp : List Addr) (Fb' : Gh), ME T Fb' (X.blk s H scope (compEnvC scope cl C X.env) fp) elt me)
    (S : StR (gx X T) Fb H σ ρ F) (o : Out X T σ H (mComp (own.map (·.2)) mi g mt me ρ) (fun ds => ∀ p vs H', H p = none → Same H H' → H' p = some (.lst vs) → RepL (gx X T) H' (fun a => a = p ∨ avo Fb F a) ds vs → Q (.ref p) H')) :
    tLc wi (blkG X scope tg) (blkT X scope ifs) (blkE X scope elt) (own.map (·.2)) σ H Q := by
  refine f σ H F ρ _ S (o.bind.imp fun xs _ o1 J H1 P s1 it hp L hL => ?_)
  have S1 := S.same s1
  have o1 : Out X T σ H (match decide (xs.length ≤ sizeLine) with
    | true => compL g mt me (wipeE ρ (own.map (·.2))) xs
    | false => (Res.bad : Res (List D))) _ := o1
  have hz : xs.length ≤ sizeLine := by
    by_cases hz : xs.length ≤ sizeLine
    · exact hz
    · rw [decide_eq_false hz] at o1; exact False.elim o1
  rw [decide_eq_true hz] at o1
  have o1 : Out X T σ H (compL g mt me (wipeE ρ (own.map (·.2))) xs) _ := o1
  cases q : compL g mt me (wipeE ρ (own.map (·.2))) xs with
  | err z => exact absurd q compL_noerr
  | bad => rw [q] at o1; exact False.elim o1
  | ok ds =>
    rw [q] at o1
    generalize hw : wipeE ρ (own.map (·.2)) = ρw at q
    have Sw : StR (gx X T) ⟨fun a => a = L ∨ Fb.fb a, none⟩ (upd H1 L (.lst [])) (L2.wipe σ (own.map (·.2))) ρw F := by rw [← hw]; exact (S1.drop.wipe rfl _).new hL
    have toA : ∀ {d : D} {v : V} {H' : Hp}, Rep (gx X T) H' (avo ⟨fun a => a = L ∨ Fb.fb a, none⟩ F) d v → Rep (gx X T) H' (fun a => a = L ∨ avo Fb F a) d v := fun {d v H'} r => Rep.mono (kept_sub fun a z => by
      rcases z with z | z | z
      · exact .inr (.inl z)
      · exact .inl z
      · exact .inr (.inr z)) d r
    have ofA : ∀ {d : D} {v : V} {H' : Hp}, Rep (gx X T) H' (fun a => a = L ∨ avo Fb F a) d v → Rep (gx X T) H' (avo ⟨fun a => a = L ∨ Fb.fb a, none⟩ F) d v := fun {d v H'} r => Rep.mono (kept_sub fun a z => by
      rcases z with z | z | z
      · exact .inr (.inl z)
      · exact .inl z
      · exact .inr (.inr z)) d r
    have pP : ∀ (H' : Hp) (acc : List V), Same H1 H' → H' L = some (.lst acc) → P H' (fun a => a = L ∨ avo Fb F a) := fun H' acc s e => by
      have sm : Same H1 (fun a => if a = L then none else H' a) := fun a o h => by
        have ne := ne_of_none h hL
        show (if a = L then none else H' a) = some o
        rw [if_neg ne]
        exact s _ _ h
      have k := it.new (p := L) (o := .lst acc) (it.same hp sm) (if_pos rfl)
      have e2 : upd (fun a => if a = L then none else H' a) L (.lst acc) = H' := by
        funext a
        unfold upd
        by_cases h : a = L
        · rw [if_pos h, h, e]
        · rw [if_neg h]; exact if_neg h
      rw [e2] at k
      exact k
    refine ⟨fun i m H' => m = xs.length - i ∧ i ≤ xs.length ∧ ∃ dn rs acc, ds = dn ++ rs ∧ dn.length ≤ i ∧ compL g mt me ρw (xs.drop i) = .ok rs ∧ H' L = some (.lst acc) ∧ RepL (gx X T) H' (fun a => a = L ∨ avo Fb F a) dn acc ∧ Same H1 H' ∧
      StR (gx X T) ⟨fun a => a = L ∨ Fb.fb a, none⟩ H' (L2.wipe σ (own.map (·.2))) ρw F, ⟨xs.length, rfl, Nat.zero_le _, [], ds, [], rfl, Nat.le_refl _, q, upd_same, rfl, same_upd hL, Sw⟩, ?_⟩
    rintro i m H' ⟨rfl, hi, dn, rs, acc, e1, hdn, e2, e3, r3, s3, S3⟩
    have P3 := pP H' acc s3 e3
    have hav : ∀ a, (a = L ∨ avo Fb F a) → H' a ≠ none := fun a z => by
      rcases z with z | z
      · rw [z, e3]; exact fun z => by cases z
      · rw [same_at s3 (S1.av a z)]; exact S1.av a z
    by_cases hlt : i < xs.length
    · refine .inr ⟨it.go P3 hlt, fun H'' => ∃ dn rs acc, ds = dn ++ rs ∧ dn.length ≤ i + 1 ∧ compL g mt me ρw (xs.drop (i + 1)) = .ok rs ∧ H'' L = some (.lst acc) ∧ RepL (gx X T) H'' (fun a => a = L ∨ avo Fb F a) dn acc ∧ Same H1 H'' ∧
        StR (gx X T) ⟨fun a => a = L ∨ Fb.fb a, none⟩ H'' (L2.wipe σ (own.map (·.2))) ρw F, fun H'' k => ⟨xs.length - (i + 1), by omega, rfl, hlt, k⟩, fun x H2 y => ?_⟩
      rw [List.drop_eq_getElem_cons hlt] at e2
      obtain ⟨s4, rx⟩ := it.yld P3 hav (List.getElem?_eq_getElem hlt) y
      have e2 : (match g xs[i] ρw with
        | none => (Res.bad : Res (List D))
        | some ρ1 => nerr (mt ρ1) >>= fun b => match b with
          | true => nerr (me ρ1) >>= fun d => compL g mt me ρw (xs.drop (i + 1)) >>= fun ds => .ok (d :: ds)
          | false => compL g mt me ρw (xs.drop (i + 1))) = .ok rs := e2
      intro s0 H0 C cl fp
      cases q1 : g xs[i] ρw with
      | none => rw [q1] at e2; cases e2
      | some ρ1 =>
        rw [q1] at e2
        have e2 : (nerr (mt ρ1) >>= fun b => match b with
          | true => nerr (me ρ1) >>= fun d => compL g mt me ρw (xs.drop (i + 1)) >>= fun ds => .ok (d :: ds)
          | false => compL g mt me ρw (xs.drop (i + 1))) = .ok rs := e2
        refine (hg s0 H0 C cl fp _).run _ H2 F ρw ρ1 _ x _ (S3.same s4) (ofA rx) q1 fun σ2 on S4 => ⟨wipe_only on, ?_⟩
        intro s0 H0 C cl fp
        cases q2 : mt ρ1 with
        | err z => rw [q2] at e2; cases e2
        | bad => rw [q2] at e2; cases e2
        | ok b =>
          rw [q2] at e2
          refine (ht s0 H0 C cl fp _).run σ2 H2 F ρ1 _ S4 ?_
          rw [q2]
          intro H3 s5
          cases b with
          | false =>
            have e2 : compL g mt me ρw (xs.drop (i + 1)) = .ok rs := e2
            have s45 := s4.trans s5
            exact iteF ⟨dn, rs, acc, e1, by omega, e2, s45 _ _ e3, r3.same s45, s3.trans s45, S3.same s45⟩
          | true =>
            have e2 : (nerr (me ρ1) >>= fun d => compL g mt me ρw (xs.drop (i + 1)) >>= fun ds => Res.ok (d :: ds)) = .ok rs := e2
            refine iteT ?_
            intro s0 H0 C cl fp
            cases q3 : me ρ1 with
            | err z => rw [q3] at e2; cases e2
            | bad => rw [q3] at e2; cases e2
            | ok d =>
              rw [q3] at e2
              have e2 : (compL g mt me ρw (xs.drop (i + 1)) >>= fun ds => Res.ok (d :: ds)) = .ok rs := e2
              cases q4 : compL g mt me ρw (xs.drop (i + 1)) with
              | err z => rw [q4] at e2; cases e2
              | bad => rw [q4] at e2; cases e2
              | ok rs' =>
                rw [q4] at e2
                have e2 : Res.ok (d :: rs') = .ok rs := e2
                injection e2 with e2
                refine (he s0 H0 C cl fp _).run σ2 H3 F ρ1 _ (S4.same s5) ?_
                rw [q3]
                intro y H4 s6 r6
                have s456 := s4.trans (s5.trans s6)
                have h4 := s456 _ _ e3
                have kk : Kept H4 (upd H4 L (.lst (acc ++ [y]))) (fun a => a = L ∨ avo Fb F a) (fun a => a = L ∨ avo Fb F a) := ⟨fun a u h n => by rw [upd_ne fun z => n (.inl z)]; exact h, fun a z => .inl z⟩
                refine ⟨acc, h4, ?_, dn ++ [d], rs', acc ++ [y], by rw [e1, ← e2, List.append_assoc]; rfl, by rw [List.length_append]; simp; omega, rfl, upd_same, ?_, ?_, ?_⟩
                · have := r3.length
                  omega
                · exact RepL.mono kk _ ((r3.same s456).append (RepL.cons (toA r6) (RepL.nil_iff.mpr rfl)))
                · exact fun a u h => by
                    have nL : a ≠ L := ne_of_none h hL
                    rw [upd_ne nL]
                    exact s456 _ _ (s3 _ _ h)
                · exact (S3.same s456).chg (H' := H4) (.inl rfl)
    · have e : i = xs.length := by omega
      subst e
      rw [List.drop_length] at e2
      have e2 : Res.ok ([] : List D) = .ok rs := e2
      injection e2 with e2
      subst e2
      rw [List.append_nil] at e1
      refine .inl ⟨it.stop P3 (Nat.le_refl _), ?_⟩
      have o1 : ∀ p vs H', H p = none → Same H H' → H' p = some (.lst vs) → RepL (gx X T) H' (fun a => a = p ∨ avo Fb F a) ds vs → Q (.ref p) H' := o1
      refine o1 L acc H' (s1.free hL) (s1.trans s3) e3 ?_
      rw [e1]
      exact r3
theorem mf_comp (hc : X.calm = true) (hN : X.N.Nodup) (hi : MIb T Fb X tg iter mi) (ok : BlkOk X.N X.env.scope scope own)
    (hg : ∀ (s : Shared) (H : Hp) (C : Addr) (cl : List (Str × Addr)) (fp : List Addr) (Fb' : Gh), MG T Fb' (X.blk s H scope (compEnvC scope cl C X.env) fp) tg (own.map (·.2)) g)
    (ht : ∀ (s : Shared) (H : Hp) (C : Addr) (cl : List (Str × Addr)) (fp : List Addr) (Fb' : Gh), MTs T Fb' (X.blk s H scope (compEnvC scope cl C X.env) fp) ifs mt)
    (he : ∀ (s : Shared) (H : Hp) (C : Addr) (cl : List (Str × Addr)) (fp : List Addr) (Fb' : Gh), ME T Fb' (X.blk s H scope (compEnvC scope cl C X.env) fp) elt me)
    (hs : ∀ x, foldedSetIterable iter X.env x = pure x := by intro _; rfl) : MF T Fb X (.ListComp elt [⟨tg, iter, ifs, 0⟩] scope pos) (mComp (own.map (·.2)) mi g mt me) := by
  obtain ⟨wi, hpi, f⟩ := hi.ex
  refine ⟨fun σ H F ρ Q S o => (pe_lc hc hN hpi ok pg_blk pts_blk pe_blk hs).tw ?_⟩
  exact comp_core f hg ht he S o
/-- y = [..] -/
theorem ms_setComp (i : Nat) {y : Str} {py spos : Pos} (own' : Bool) (hc : X.calm = true) (hN : X.N.Nodup) (hi : MIb T Fb X tg iter mi) (ok : BlkOk X.N X.env.scope scope own)
    (hg : ∀ (s : Shared) (H : Hp) (C : Addr) (cl : List (Str × Addr)) (fp : List Addr) (Fb' : Gh), MG T Fb' (X.blk s H scope (compEnvC scope cl C X.env) fp) tg (own.map (·.2)) g)
    (ht : ∀ (s : Shared) (H : Hp) (C : Addr) (cl : List (Str × Addr)) (fp : List Addr) (Fb' : Gh), MTs T Fb' (X.blk s H scope (compEnvC scope cl C X.env) fp) ifs mt)
    (he : ∀ (s : Shared) (H : Hp) (C : Addr) (cl : List (Str × Addr)) (fp : List Addr) (Fb' : Gh), ME T Fb' (X.blk s H scope (compEnvC scope cl C X.env) fp) elt me)
    (hy : X.N[i]? = some y := by rfl) (hyl : X.env.scope.names.lookup y = some .local := by rfl) (hsw : swapsWith (.ListComp elt [⟨tg, iter, ifs, 0⟩] scope pos) (some (.Name y py)) spos.line X.env = pure true := by exact sw_true rfl rfl rfl (by decide +kernel))
    (hs : ∀ x, foldedSetIterable iter X.env x = pure x := by intro _; rfl) : MS T Fb X (.Assign [.Name y py] (.ListComp elt [⟨tg, iter, ifs, 0⟩] scope pos) spos)
      (match own' with
        | true => mSetO i (mComp (own.map (·.2)) mi g mt me)
        | false => mSet i (toE (mComp (own.map (·.2)) mi g mt me))) := by
  obtain ⟨wi, hpi, f⟩ := hi.ex
  refine ⟨fun σ H F ρ De S o => (ps_setLc hc hN hy hyl hsw hpi ok pg_blk pts_blk pe_blk hs).tw ?_⟩
  refine comp_core (own := own) f hg ht he S ?_
  cases own' with
  | true =>
    refine (OutS.toOut S o).imp fun ds _ o1 p vs H1 np s hp r => ?_
    obtain ⟨hl, o2⟩ := o1.put
    obtain ⟨q, S'⟩ := S.setO hl s np hp r
    exact o2 _ _ _ q S'
  | false =>
    refine (OutS.toOut S o).bind.imp fun ds _ o1 p vs H1 np s hp r => ?_
    obtain ⟨hl, o2⟩ := OutS.put (show OutS X T Fb De H F (put i (.v (.d (.lst ds))) ρ) from o1)
    exact o2 _ _ F (Post.of_same s) ((S.same s).setD hl ⟨p, vs, rfl, ⟨hp, fun z => absurd np (S.av p z)⟩, RepL.mono kept_less ds r⟩)
end
end Cr
/-! Core, part 11: raise, try, a def by its body. -/
namespace Cr
open PySem PySem.Spec PyProof.Rows L2
section
variable {T : CT} {X : Cx}
def iaddD : D → D → Res D
  | .int a, .int b => .ok (.int (a + b))
  | .str a, .str b => if a.length + b.length ≤ sizeLine then .ok (.str (a ++ b)) else .bad
  | _, _ => .bad
theorem om_isub : OpM T X (inplaceOp .Sub) subD := op_int0 (gi := fun i j => .int (i - j)) iop_sub (fun _ _ _ _ => rfl) (fun _ _ => rfl) (fun x y d h => by cases x <;> cases y <;> first | exact ⟨_, _, rfl, rfl⟩ | (exact nomatch h)) (fun x y e h => by cases x <;> cases y <;> exact nomatch h)
theorem om_iadd : OpM T X (inplaceOp .Add) iaddD := by
  refine ⟨_, (iop_add.or iop_add_str), fun σ H Av dx dy x y Q hav rx ry o => ?_⟩
  cases dx <;> cases dy <;> try exact False.elim o
  · exact .inl ⟨_, _, rx, ry, o _ _ (Same.refl H) rfl⟩
  · obtain ⟨hz, f⟩ := o.if
    exact .inr ⟨_, _, rx, ry, hz, f _ _ (Same.refl H) rfl⟩
end
/-- an own error class without __init__ -/
structure ExAt (K : PySem.W.Frag) (mg : Str → Option Value) (T : CT) (c : Nat) (x : Str) : Prop where
  g : mg x = some (.ref (T.addr c))
  q : PySem.W.excIn K (T.addr c) He.veBase "ValueError.__new__" = true
  k : PySem.W.keepIn K (.ref (T.addr c)) = true
  b : PySem.W.subIn K (.ref (T.addr c)) (.type "BaseException") = some true
  t : PySem.W.typeIn K (.ref (T.addr c)) = some (.type "type")
def mRaise (x : Exc) : Env → Flow := fun ρ => .er x ρ
section
variable {T : CT} {Fb : Gh} {X : Cx} {e a b c : Expr} {body suite : List Stmt} {m m2 : Env → Flow} {pos p p2 pos' np : Pos} {x msg : Str} {j : Nat}
theorem ms_raise {k : Nat} (hc : X.calm = true) (A : ExAt X.K X.mg T k x) (hg : Gl X x := by rfl) (hdb : (x == ("__debug__" : Str)) = false := by decide) : MS T Fb X (.Raise (some (.Call (.Name x p) [.Constant (.str msg) j p2] [] pos)) none pos') (mRaise (.own k)) := by
  refine ⟨fun σ H F ρ De S o => ?_⟩
  obtain ⟨W, tk, f⟩ := o
  exact (ps_raise hc tk (pmk_own PySem.F.excBase_ValueError A.q A.g A.k (raises_own A.b A.t) hg hdb)).tw (f _ _ σ H F Post.refl S ⟨rfl, rfl⟩)
def Exc.cl : Exc → Nat
  | .own c => c
  | .low c _ => c
def nerrF : Flow → Flow
  | .er _ _ => .bad
  | f => f
/-- try: body except c: suite -/
def mTry (cs : List Nat) (c : Nat) (m m2 : Env → Flow) : Env → Flow := fun ρ => match m ρ with
  | .er x ρ' => if x.cl ∈ cs then (if x.cl = c then nerrF (m2 ρ') else .er x ρ') else .bad
  | f => f
theorem ms_try {cs : List Nat} {c : Nat} {b₀ : Stmt} {suite : List Stmt} (hs : X.stack = X.env :: X.outer) (hf : X.env.frame = some X.env.locals) (g : X.mg x = some (.ref (T.addr c))) (hm : ∀ c' ∈ cs, PySem.W.exmOne X.K (.ref (T.addr c')) (.ref (T.addr c)) = some (decide (c' = c)))
    (hb : ∀ (pn : List (Addr × Obj)) (xe : Value → Shared → Prop), PassesOwn (model X.prog X.w) X.A X.env xe → MSs T Fb (X.tr pn xe) body m)
    (hsu : ∀ (a : Addr) (pn : List (Addr × Obj)), MSs T Fb (X.suite a pn) (b₀ :: suite) m2) (hg : Gl X x := by rfl) (hdb : (x == ("__debug__" : Str)) = false := by decide) :
    MS T Fb X (.Try body [.ExceptHandler (some (.Name x np)) none (b₀ :: suite) pos'] [] [] pos) (mTry cs c m m2) := by
  refine ⟨fun σ H F ρ De S o => ?_⟩
  obtain ⟨Wout, tk, out⟩ : ∃ Wout : WX, Takes X Wout ∧ ∀ y ρ', mTry cs c m m2 ρ = .er y ρ' → ∀ cls d σ' H' F', Post H F H' F' → StR (gx X T) Fb H' σ' ρ' F' → ExcRep (gx X T) H' y cls d → Wout cls d σ' H' := by
    cases q : mTry cs c m m2 ρ with
    | er y ρ' =>
      rw [q] at o
      obtain ⟨W, tk, f⟩ := o
      exact ⟨W, tk, fun y2 ρ2 e => by cases e; exact f⟩
    | nx ρ' => exact ⟨_, takes0, fun y2 ρ2 e => by cases e⟩
    | rt d ρ' => exact ⟨_, takes0, fun y2 ρ2 e => by cases e⟩
    | bad => exact ⟨_, takes0, fun y2 ρ2 e => by cases e⟩
  have ps := ps_try_only (X := X) (x := x) (c := .ref (T.addr c)) (body := body) (suite := suite) (b₀ := b₀) (np := np) (pos := pos) (pos' := pos') (Wout := Wout) (tb := fun W D σ H => ∀ (pn : List (Addr × Obj)) (xe : Value → Shared → Prop), Takes (X.tr pn xe) W → PassesOwn (model X.prog X.w) X.A X.env xe → TWss (X.tr pn xe) body D σ H)
    (ts := fun a cls d D σ H => ∀ (pn : List (Addr × Obj)), TWss (X.suite a pn) (b₀ :: suite) D σ H) hs hf ⟨hg, hdb, .inl g⟩ tk
    (fun W pn xe tk po => ⟨fun pins s σ H D I h => h pn xe tk po pins s I⟩) (fun a oe cls d pn hz hd => ⟨fun pins s σ H D I h => h _ pins s I⟩)
  refine ps.tw ?_
  intro pn xe tk' po
  refine (hb pn xe po).run σ H F ρ De S ?_
  unfold mTry at o out
  cases q : m ρ with
  | nx ρ' => rw [q] at o; exact o
  | rt d ρ' => rw [q] at o; exact o
  | bad => rw [q] at o; exact o
  | er y ρ' =>
    rw [q] at o out
    have o : OutS X T Fb De H F (if y.cl ∈ cs then (if y.cl = c then nerrF (m2 ρ') else .er y ρ') else .bad) := o
    have out : ∀ y2 ρ2, (if y.cl ∈ cs then (if y.cl = c then nerrF (m2 ρ') else .er y ρ') else .bad) = Flow.er y2 ρ2 → ∀ cls d σ' H' F', Post H F H' F' → StR (gx X T) Fb H' σ' ρ2 F' → ExcRep (gx X T) H' y2 cls d → Wout cls d σ' H' := out
    by_cases hcs : y.cl ∈ cs
    · rw [if_pos hcs] at o out
      refine ⟨_, tk', fun cls d σ' H' F' p S' r => ?_⟩
      have ecls : cls = .ref (T.addr y.cl) := by
        cases y with
        | own c' => exact r.1
        | low c' z => exact r.1
      refine ⟨decide (y.cl = c), by rw [ecls]; exact hm _ hcs, fun e a ha pn2 => ?_, fun e => ?_⟩
      · have e := of_decide_eq_true e
        rw [if_pos e] at o
        refine (hsu a pn2).run σ' H' F' ρ' De S' ?_
        have o := o.post p
        cases q2 : m2 ρ' with
        | nx ρ2 => rw [q2] at o; exact o
        | rt d ρ2 => rw [q2] at o; exact o
        | er z ρ2 => rw [q2] at o; exact False.elim o
        | bad => rw [q2] at o; exact o
      · have e := of_decide_eq_false e
        rw [if_neg e] at out
        exact out y ρ' rfl cls d σ' H' F' p S' r
    · rw [if_neg hcs] at o; exact False.elim o
end
/-! ### a def by its body -/
def startE (l : Nat) (ds : List D) : Env := ds.map (fun d => Sl.v (.d d)) ++ List.replicate (l - ds.length) .no
def runD (l : Nat) (m : Env → Flow) : List D → Res D := fun ds => match m (startE l ds) with
  | .nx _ => .ok .non
  | .rt d _ => .ok d
  | .er x _ => .err x
  | .bad => .bad
theorem repEnv_no {G : Gx} {H : Hp} {Av : Addr → Prop} : ∀ (k : Nat) (σ : L2.St), σ.length = k → RepEnv G H Av (List.replicate k .no) σ []
  | 0, σ, h => ⟨List.eq_nil_of_length_eq_zero h, rfl⟩
  | k + 1, [], h => by cases h
  | k + 1, o :: σ, h => ⟨o, σ, [], [], rfl, rfl, rfl, repEnv_no k σ (by simpa using h)⟩
theorem repEnv_start {G : Gx} {H : Hp} {Av : Addr → Prop} {k : Nat} : ∀ {ds : List D} {vs : List V}, RepL G H Av ds vs → RepEnv G H Av (ds.map (fun d => Sl.v (.d d)) ++ List.replicate k .no) (vs.map some ++ List.replicate k none) []
  | [], vs, r => by
    have r : vs = [] := r
    subst r
    exact repEnv_no k _ (by simp)
  | d :: ds, vs, r => by
    obtain ⟨v, vr, rfl, r1, r2⟩ := r
    exact ⟨some v, _, [], [], rfl, rfl, ⟨v, rfl, rfl, r1⟩, repEnv_start r2⟩
theorem Post.nil_same {H H' : Hp} {F' : List Addr} (p : Post H [] H' F') : Same H H' := fun a o h => p.keep a o h (by simp)
section
variable {P : Program} {w : World} {K : PySem.W.Frag} {mg : Str → Option Value} {base : Heap} {T : CT} {x qual : Str} {params : Arguments} {body : List Stmt} {scope : Scope} {dvs : List V} {kws : List (Str × V)} {f : Addr} {fd : FuncData} {N ps : List Str} {k n : Nat}
theorem fn_ok {m : Env → Flow} (F : FunD K x qual params body scope dvs kws f fd) (S : FnScope N ps scope) (hps : ps.length = n)
    (hb : ∀ (cdv : Value) (A : Around) (outer : List PySem.Env) (s : Shared) (H : Hp) (E : XK) (Fb : Gh), Room k (A.deeper (envOfC qual scope s.heap.objs.size f cdv)) → MSs T Fb (cxOf (L2.CX P w) P w K mg base N qual scope f cdv A outer s H E) body m) :
    FnOk P w K mg base (L2.CX P w) (k + 1) f fd ps (spD K T n (runD N.length m)) := by
  refine F.ok S (fun vs H Q E h => by rw [hps]; exact h.1) fun cdv A outer s H vs Q E hr h => ⟨_, pss_tw, ?_⟩
  obtain ⟨hl, Av, ds, hav, r, o⟩ := h
  refine (hb cdv A outer s H E ⟨Av, none⟩ hr).run _ H [] (startE N.length ds) _ ?_ ?_
  · have e : avo ⟨Av, none⟩ [] = Av := funext fun a => propext ⟨fun z => z.elim (fun z => by cases z) id, .inr⟩
    refine ⟨⟨[], ?_, List.nodup_nil, fun a ha => absurd ha (by simp)⟩, fun a ha => absurd ha (by simp), fun a h => ⟨hav a h, by simp⟩, fun _ h => nomatch h⟩
    rw [e]
    unfold L2.start startE
    rw [r.length]
    exact repEnv_start r
  · have toAv : ∀ {F' : List Addr} {H' : Hp} {d : D} {v : V}, Rep ⟨K, T⟩ H' (avo ⟨Av, none⟩ F') d v → Rep ⟨K, T⟩ H' Av d v := fun {F' H' d v} r => Rep.mono (kept_sub fun a z => .inr z) d r
    unfold runD at o
    cases q : m (startE N.length ds) with
    | nx ρ' => rw [q] at o; exact fun σ' H' F' p S' => o .non H' p.nil_same rfl
    | rt d ρ' => rw [q] at o; exact fun v σ' H' F' p S' r => o v H' p.nil_same (toAv r)
    | er z ρ' =>
      rw [q] at o
      exact ⟨_, takes_of rfl rfl rfl rfl, fun cls d σ' H' F' p S' r => o cls d H' p.nil_same r⟩
    | bad => rw [q] at o; exact o
theorem fn_bad (h0 : FunD K x qual params body scope dvs kws f fd) : FnOk P w K mg base (L2.CX P w) k f fd ps (spD K T n (fun _ => .bad)) :=
  ⟨fun vs H Q E h => by obtain ⟨_, _, _, _, _, z⟩ := h; exact False.elim z, fun A outer s H args us vs Q E _ _ _ _ h => by obtain ⟨_, _, _, _, _, z⟩ := h; exact False.elim z⟩
end
end Cr
/-! Core, part 12: __init__: self, its fields. -/
namespace Cr
open PySem PySem.Spec PyProof.Rows L2
def putFd (f : Str) (x : Fd) : List (Str × Fd) → List (Str × Fd)
  | [] => [(f, x)]
  | (g, y) :: r => if g = f then (g, x) :: r else (g, y) :: putFd f x r
section
variable {G : Gx} {H H' : Hp} {Av Av' : Addr → Prop}
theorem RepFs.keys : ∀ {fs : List (Str × Fd)} {vs : List (Str × V)} {fp : List Addr}, RepFs G H Av fs vs fp → vs.map (·.1) = fs.map (·.1)
  | [], _, _, h => by rw [h.1]; rfl
  | (n, f) :: fs, _, _, h => by
    obtain ⟨v, vr, p, q, rfl, _, _, h2⟩ := h
    rw [List.map_cons, List.map_cons, RepFs.keys h2]
theorem RepFs.len {fs : List (Str × Fd)} {vs : List (Str × V)} {fp : List Addr} (h : RepFs G H Av fs vs fp) : vs.length = fs.length := by
  have := congrArg List.length h.keys
  simpa using this
theorem RepFs.look : ∀ {fs : List (Str × Fd)} {vs : List (Str × V)} {fp : List Addr} {n : Str} {f : Fd}, RepFs G H Av fs vs fp → fs.lookup n = some f → ∃ v p, vs.lookup n = some v ∧ RepFd G H Av f v p
  | [], _, _, _, _, _, e => by cases e
  | (m, g) :: fs, _, _, n, f, h, e => by
    obtain ⟨v, vr, p, q, rfl, _, h1, h2⟩ := h
    rw [List.lookup_cons] at e ⊢
    cases b : (n == m) with
    | true => rw [b] at e; cases e; exact ⟨v, p, rfl, h1⟩
    | false => rw [b] at e; exact RepFs.look h2 e
/-- a field takes a thing whose places are p' -/
theorem RepFs.put (k : Kept H H' Av Av') (n : Str) {f : Fd} {v : V} {p' : List Addr} (r : RepFd G H' Av' f v p') : ∀ {fs : List (Str × Fd)} {vs : List (Str × V)} {fp : List Addr}, RepFs G H Av fs vs fp → (∀ a ∈ fp, H' a = H a) → fp.Nodup → p'.Nodup → (∀ a ∈ p', a ∉ fp) →
    ∃ fp', RepFs G H' Av' (putFd n f fs) (putF n v vs) fp' ∧ fp'.Nodup ∧ ∀ a ∈ fp', a ∈ fp ∨ a ∈ p'
  | [], _, _, h, _, _, nd, _ => by
    obtain ⟨rfl, rfl⟩ := h
    exact ⟨p', ⟨v, [], p', [], rfl, by simp, r, rfl, rfl⟩, nd, fun a ha => .inr ha⟩
  | (m, g) :: fs, _, _, h, hf, nf, nd, dj => by
    obtain ⟨w, vr, p, q, rfl, rfl, h1, h2⟩ := h
    obtain ⟨n1, n2, n3⟩ := List.nodup_append.mp nf
    show ∃ fp', RepFs G H' Av' (if m = n then (m, f) :: fs else (m, g) :: putFd n f fs) (if m = n then (m, v) :: vr else (m, w) :: putF n v vr) fp' ∧ _
    by_cases e : m = n
    · rw [if_pos e, if_pos e]
      refine ⟨p' ++ q, ⟨v, vr, p', q, rfl, rfl, r, h2.mono k fun a ha => hf a (List.mem_append_right _ ha)⟩, List.nodup_append.mpr ⟨nd, n2, fun a ha b hb z => dj a ha (by rw [z]; exact List.mem_append_right _ hb)⟩, fun a ha => ?_⟩
      rcases List.mem_append.mp ha with z | z
      · exact .inr z
      · exact .inl (List.mem_append_right _ z)
    · rw [if_neg e, if_neg e]
      obtain ⟨q', k1, k2, k3⟩ := RepFs.put k n r h2 (fun a ha => hf a (List.mem_append_right _ ha)) n2 nd (fun a ha z => dj a ha (List.mem_append_right _ z))
      refine ⟨p ++ q', ⟨w, _, p, q', rfl, rfl, h1.mono k fun a ha => hf a (List.mem_append_left _ ha), k1⟩, List.nodup_append.mpr ⟨n1, k2, fun a ha b hb z => ?_⟩, fun a ha => ?_⟩
      · rcases k3 b hb with y | y
        · exact n3 a ha b y z
        · exact dj b y (by rw [← z]; exact List.mem_append_left _ ha)
      · rcases List.mem_append.mp ha with z | z
        · exact .inl (List.mem_append_left _ z)
        · rcases k3 a z with y | y
          · exact .inl (List.mem_append_right _ y)
          · exact .inr y
/-- an owned field's list is changed -/
theorem RepFs.chg (n : Str) : ∀ {fs : List (Str × Fd)} {vs : List (Str × V)} {fp : List Addr} {xs : List D}, RepFs G H Av fs vs fp → fs.lookup n = some (.ol xs) → fp.Nodup →
    ∃ a ws, vs.lookup n = some (.ref a) ∧ H a = some (.lst ws) ∧ RepL G H Av xs ws ∧ a ∈ fp ∧ ∀ {H' : Hp} {Av' : Addr → Prop} {ys : List D} {zs : List V}, Kept H H' Av Av' → (∀ b ∈ fp, b ≠ a → H' b = H b) → H' a = some (.lst zs) → RepL G H' Av' ys zs → RepFs G H' Av' (putFd n (.ol ys) fs) vs fp
  | [], _, _, _, _, e, _ => by cases e
  | (m, g) :: fs, _, _, xs, h, e, nf => by
    obtain ⟨w, vr, p, q, rfl, rfl, h1, h2⟩ := h
    obtain ⟨n1, n2, n3⟩ := List.nodup_append.mp nf
    rw [List.lookup_cons] at e
    cases b : (n == m) with
    | true =>
      rw [b] at e
      have e : some g = some (.ol xs) := e
      cases e
      obtain ⟨a, ws, rfl, rfl, k1, k2⟩ := h1
      have hm : m = n := (beq_iff_eq.mp b).symm
      refine ⟨a, ws, by rw [List.lookup_cons, b], k1, k2, by simp, fun {H' Av' ys zs} k hk ha r => ?_⟩
      show RepFs G H' Av' (if m = n then (m, .ol ys) :: fs else _) _ _
      rw [if_pos hm]
      exact ⟨_, vr, [a], q, rfl, rfl, ⟨a, zs, rfl, rfl, ha, r⟩, h2.mono k fun b hb => hk b (List.mem_append_right _ hb) fun z => n3 a (by simp) b hb z.symm⟩
    | false =>
      rw [b] at e
      have hm : ¬ m = n := fun z => by rw [z, beq_self_eq_true] at b; cases b
      obtain ⟨a, ws, k1, k2, k3, k4, f⟩ := RepFs.chg n h2 e n2
      refine ⟨a, ws, by rw [List.lookup_cons, b]; exact k1, k2, k3, List.mem_append_right _ k4, fun {H' Av' ys zs} k hk ha r => ?_⟩
      show RepFs G H' Av' (if m = n then _ else (m, g) :: putFd n (.ol ys) fs) _ _
      rw [if_neg hm]
      exact ⟨w, vr, p, q, rfl, rfl, h1.mono k fun b hb => hk b (List.mem_append_left _ hb) fun z => n3 b hb a k4 z, f k (fun b hb => hk b (List.mem_append_right _ hb)) ha r⟩
end
section
variable {G : Gx} {Fb : Gh} {H H' : Hp} {σ : L2.St} {ρ : Env} {F : List Addr} {i c : Nat} {fs : List (Str × Fd)}
/-- self: its parts -/
theorem StR.self (S : StR G Fb H σ ρ F) (e : ρ[i]? = some (.oo c fs)) : ∃ a dx vs p, σ[i]? = some (some (.ref a)) ∧ H a = some (.ins (G.T.addr c) dx vs) ∧ RepFs G H (avo Fb F) fs vs p ∧ a ∈ F ∧ (∀ b ∈ p, b ∈ F) ∧ a ∉ p ∧ p.Nodup := by
  obtain ⟨F0, r0, nd, sub⟩ := S.ex
  obtain ⟨o, p1, p, p2, e1, e2, r1, f⟩ := r0.focus e
  obtain ⟨a, dx, vs, q, rfl, rfl, h1, h2⟩ := r1
  rw [e2] at nd
  have n2 := (List.nodup_append.mp (List.nodup_append.mp nd).1).2.1
  obtain ⟨n3, n4⟩ := List.nodup_cons.mp n2
  exact ⟨a, dx, vs, q, e1, h1, h2, sub a (by rw [e2]; simp), fun b hb => sub b (by rw [e2]; simp [hb]), n3, n4⟩
/-- self: its parts, and what comes when they change -/
theorem StR.selfU (S : StR G Fb H σ ρ F) (e : ρ[i]? = some (.oo c fs)) : ∃ a dx vs p, σ[i]? = some (some (.ref a)) ∧ H a = some (.ins (G.T.addr c) dx vs) ∧ RepFs G H (avo Fb F) fs vs p ∧ a ∈ F ∧ (∀ b ∈ p, b ∈ F) ∧ a ∉ p ∧ p.Nodup ∧
    ∀ {H' : Hp} {F' p' : List Addr} {fs' : List (Str × Fd)} {vs' : List (Str × V)}, Post H F H' F' → (∀ b ∈ F, b ∈ F') → (∀ b ∈ F', H' b ≠ none) → RepFs G H' (avo Fb F') fs' vs' p' → p'.Nodup → (∀ b ∈ p', b ∈ p ∨ (b ∈ F' ∧ H b = none)) →
      H' a = some (.ins (G.T.addr c) dx vs') → (∀ b ∈ F, b ≠ a → b ∉ p → H' b = H b) → StR G Fb H' σ (ρ.set i (.oo c fs')) F' := by
  obtain ⟨F0, r0, nd, sub⟩ := S.ex
  obtain ⟨o, p1, p, p2, e1, e2, r1, f⟩ := r0.focus e
  obtain ⟨a, dx, vs, q, rfl, rfl, h1, h2⟩ := r1
  rw [e2] at nd
  have n2 := (List.nodup_append.mp (List.nodup_append.mp nd).1).2.1
  obtain ⟨n3, n4⟩ := List.nodup_cons.mp n2
  have m0 : ∀ b ∈ p1 ++ a :: q ++ p2, b ∈ F := fun b hb => sub b (by rw [e2]; exact hb)
  have d1 : ∀ b ∈ p1, b ≠ a ∧ b ∉ q := fun b hb => ⟨fun z => (List.nodup_append.mp (List.nodup_append.mp nd).1).2.2 b hb a (by simp) z, fun z => (List.nodup_append.mp (List.nodup_append.mp nd).1).2.2 b hb b (by simp [z]) rfl⟩
  have d2 : ∀ b ∈ p2, b ≠ a ∧ b ∉ q := fun b hb => ⟨fun z => (List.nodup_append.mp nd).2.2 a (by simp) b hb z.symm, fun z => (List.nodup_append.mp nd).2.2 b (by simp [z]) b hb rfl⟩
  refine ⟨a, dx, vs, q, e1, h1, h2, m0 a (by simp), fun b hb => m0 b (by simp [hb]), n3, n4, fun {H' F' p' fs' vs'} post hF dom r ndp subp ha oth => ?_⟩
  have k := f (s' := .oo c fs') (o' := some (.ref a)) (p' := a :: p') (post.kept (Fb := Fb)) (fun b hb => oth b (m0 b (by simp [hb])) (d1 b hb).1 (d1 b hb).2) (fun b hb => oth b (m0 b (by simp [hb])) (d2 b hb).1 (d2 b hb).2) ⟨a, dx, vs', p', rfl, rfl, ha, r⟩
  rw [set_same e1] at k
  have hda : H a ≠ none := by rw [h1]; exact fun z => by cases z
  have na : a ∉ p' := fun z => (subp a z).elim n3 fun y => hda y.2
  have x1 : ∀ b ∈ p1, b ∉ p' := fun b hb z => (subp b z).elim (d1 b hb).2 fun y => S.dom b (m0 b (by simp [hb])) y.2
  have x2 : ∀ b ∈ p2, b ∉ p' := fun b hb z => (subp b z).elim (d2 b hb).2 fun y => S.dom b (m0 b (by simp [hb])) y.2
  have sf : ∀ a, Fb.me = some a → σ[0]? = some (some (.ref a)) ∧ ∃ c3 f3, (ρ.set i (.oo c fs'))[0]? = some (.oo c3 f3) := fun a h => by
    obtain ⟨h1, c2, fs2, h2⟩ := S.sf a h
    by_cases h0 : i = 0
    · subst h0
      exact ⟨h1, c, fs', List.getElem?_set_self (List.getElem?_eq_some_iff.mp e).1⟩
    · exact ⟨h1, c2, fs2, by rw [List.getElem?_set_ne h0]; exact h2⟩
  refine ⟨⟨_, k, ?_, fun b hb => ?_⟩, dom, fun b h => ?_, sf⟩
  · obtain ⟨y1, y2, y3⟩ := List.nodup_append.mp nd
    obtain ⟨z1, z2, z3⟩ := List.nodup_append.mp y1
    refine List.nodup_append.mpr ⟨List.nodup_append.mpr ⟨z1, List.nodup_cons.mpr ⟨na, ndp⟩, fun b hb d hd w => ?_⟩, y2, fun b hb d hd w => ?_⟩
    · rcases List.mem_cons.mp hd with y | y
      · exact (d1 b hb).1 (w.trans y)
      · exact x1 b hb (by rw [w]; exact y)
    · rcases List.mem_append.mp hb with y | y
      · exact y3 b (List.mem_append_left _ y) d hd w
      · rcases List.mem_cons.mp y with y | y
        · exact (d2 d hd).1 (w.symm.trans y)
        · exact x2 d hd (by rw [← w]; exact y)
  · rcases List.mem_append.mp hb with y | y
    · rcases List.mem_append.mp y with y | y
      · exact hF b (m0 b (by simp [y]))
      · rcases List.mem_cons.mp y with y | y
        · rw [y]; exact hF a (m0 a (by simp))
        · exact (subp b y).elim (fun z => hF b (m0 b (by simp [z]))) (·.1)
    · exact hF b (m0 b (by simp [y]))
  · have hb := S.fb b h
    cases q : H b with
    | none => exact absurd q hb.1
    | some o =>
      have k2 := post.keep b o q hb.2
      refine ⟨by rw [k2]; exact fun z => (by cases z), fun z => ?_⟩
      rcases post.own b z with y | y
      · exact hb.2 y
      · rw [q] at y; cases y
end
/-! ### statements about self -/
section
variable {T : CT} {Fb : Gh} {X : Cx} {e o : Expr} {es : List Expr} {me : Env → Res D} {pos p apos : Pos} {x f : Str} {i c : Nat}
def fdD : Fd → D
  | .d x => x
  | .ol xs => .lst xs
/-- self.f, read (borrowed) -/
def mSelfB (i c : Nat) (f : Str) : Env → Res D := fun ρ => match ρ[i]? with
  | some (.oo c' fs) => if c' = c then opt ((fs.lookup f).map fdD) else .bad
  | _ => .bad
theorem mb_self (i c : Nat) {pos' : Pos} (cl : Cls X.K (T.addr c)) (na : NoAttr X.K (T.addr c) f) (hN : X.N[i]? = some x := by rfl) (hv : Vis X.env.scope x := by first | exact Or.inl rfl | exact Or.inr (Or.inl rfl) | exact Or.inr (Or.inr rfl))
    (hd : (x == ("__debug__" : Str)) = false := by decide) (hcd : (x == ("__classdict__" : Str)) = false := by decide) (hb : attributeBase (.Name x pos') f X.env (eval (.Name x pos') X.env) = eval (.Name x pos') X.env := by rfl) : MB T Fb X (.Attribute (.Name x pos') f pos) (mSelfB i c f) := by
  refine ⟨fun σ H F ρ Q S o => (pe_fld (pe_var hN hv hd hcd) hb).tw ?_⟩
  unfold mSelfB at o
  split at o
  · rename_i c' fs e
    by_cases hc : c' = c
    · subst hc
      rw [if_pos rfl] at o
      obtain ⟨d, e2, q⟩ := o.opt
      obtain ⟨a, dx, vs, p, e1, h1, h2, _⟩ := S.self e
      cases l : fs.lookup f with
      | none => rw [l] at e2; cases e2
      | some g =>
        rw [l] at e2
        cases e2
        obtain ⟨v, pp, l2, r⟩ := h2.look l
        refine ⟨_, e1, a, _, dx, vs, v, rfl, h1, cl, na, l2, q v H (Same.refl H) ?_⟩
        cases g with
        | d y => exact r.2.b
        | ol xs => obtain ⟨b, ws, rfl, _, k1, k2⟩ := r; exact ⟨b, ws, rfl, k1, k2⟩
    · rw [if_neg hc] at o; exact False.elim o
  · exact False.elim o
/-- self.f = e -/
def mSelfSet (i c : Nat) (f : Str) (m : Env → Res D) : Env → Flow := fun ρ => bindF (m ρ) ρ fun d => match ρ[i]? with
  | some (.oo c' fs) => if c' = c ∧ fs.length < 1000 then .nx (ρ.set i (.oo c (putFd f (.d d) fs))) else .bad
  | _ => .bad
theorem ms_selfSet (i c : Nat) {pos' p0 : Pos} (cl : Cls X.K (T.addr c)) (na : NoAttr X.K (T.addr c) f) (he : ME T Fb X e me) (hN : X.N[i]? = some x := by rfl) (hv : Vis X.env.scope x := by first | exact Or.inl rfl | exact Or.inr (Or.inl rfl) | exact Or.inr (Or.inr rfl))
    (hd : (x == ("__debug__" : Str)) = false := by decide) (hcd : (x == ("__classdict__" : Str)) = false := by decide) (hs : swapsWith e (some (.Attribute (.Name x p0) f pos')) pos.line X.env = pure false := by rfl) : MS T Fb X (.Assign [.Attribute (.Name x p0) f pos'] e pos) (mSelfSet i c f me) := by
  refine ⟨fun σ H F ρ De S o => (ps_fld (pe_var hN hv hd hcd) pe_tw hs).tw ?_⟩
  refine he.run σ H F ρ _ S ((OutS.toOut S o).imp fun d _ o1 v H1 s r => ?_)
  have S1 := S.same s
  split at o1
  · rename_i c' fs e
    obtain ⟨⟨hc, hl⟩, o2⟩ := OutS.if o1
    subst hc
    obtain ⟨a, dx, vs, p, e1, h1, h2, mF, pF, nap, ndp, k⟩ := S1.selfU e
    refine ⟨_, e1, a, _, dx, vs, rfl, h1, cl, na, by rw [h2.len]; exact hl, ?_⟩
    have post : Post H1 F (upd H1 a (.ins (T.addr c') dx (putF f v vs))) F := ⟨fun b u h n => by rw [upd_ne fun z => n (by rw [z]; exact mF)]; exact h, fun _ h => .inl h⟩
    obtain ⟨fp, q1, q2, q3⟩ := RepFs.put (post.kept (Fb := Fb)) f (f := .d d) (p' := []) ⟨rfl, Rep.mono post.kept d r⟩ h2 (fun b hb => upd_ne fun z => nap (by rw [← z]; exact hb)) ndp List.nodup_nil (fun b hb => absurd hb (by simp))
    refine o2 σ _ F ((Post.of_same s).trans post) (k post (fun _ h => h) (fun b hb => ?_) q1 q2 (fun b hb => (q3 b hb).elim .inl fun z => absurd z (by simp)) upd_same fun b _ n _ => upd_ne n)
    by_cases z : b = a
    · rw [z, upd_same]; exact fun z => by cases z
    · rw [upd_ne z]; exact S1.dom b hb
  · exact False.elim o1
/-- self.f = a new list -/
def mSelfSetO (i c : Nat) (f : Str) (m : Env → Res (List D)) : Env → Flow := fun ρ => bindF (m ρ) ρ fun d => match ρ[i]? with
  | some (.oo c' fs) => if c' = c ∧ fs.length < 1000 then .nx (ρ.set i (.oo c (putFd f (.ol d) fs))) else .bad
  | _ => .bad
theorem ms_selfSetO (i c : Nat) {mf : Env → Res (List D)} {pos' p0 : Pos} (cl : Cls X.K (T.addr c)) (na : NoAttr X.K (T.addr c) f) (he : MF T Fb X e mf) (hN : X.N[i]? = some x := by rfl) (hv : Vis X.env.scope x := by first | exact Or.inl rfl | exact Or.inr (Or.inl rfl) | exact Or.inr (Or.inr rfl))
    (hd : (x == ("__debug__" : Str)) = false := by decide) (hcd : (x == ("__classdict__" : Str)) = false := by decide) (hs : swapsWith e (some (.Attribute (.Name x p0) f pos')) pos.line X.env = pure false := by rfl) : MS T Fb X (.Assign [.Attribute (.Name x p0) f pos'] e pos) (mSelfSetO i c f mf) := by
  refine ⟨fun σ H F ρ De S o => (ps_fld (pe_var hN hv hd hcd) pe_tw hs).tw ?_⟩
  refine he.run σ H F ρ _ S ((OutS.toOut S o).imp fun d _ o1 q ws H1 nq s hq r => ?_)
  have S1 := S.same s
  split at o1
  · rename_i c' fs e
    obtain ⟨⟨hc, hl⟩, o2⟩ := OutS.if o1
    subst hc
    obtain ⟨a, dx, vs, p, e1, h1, h2, mF, pF, nap, ndp, k⟩ := S.selfU e
    have h1' := s _ _ h1
    refine ⟨_, e1, a, _, dx, vs, rfl, h1', cl, na, by rw [h2.len]; exact hl, ?_⟩
    have nqF : q ∉ F := fun z => S.dom q z nq
    have nqa : q ≠ a := fun z => nqF (by rw [z]; exact mF)
    have post : Post H F (upd H1 a (.ins (T.addr c') dx (putF f (.ref q) vs))) (q :: F) := ⟨fun b u h n => by rw [upd_ne fun z => n (by rw [z]; exact mF)]; exact s _ _ h, fun b z => (List.mem_cons.mp z).elim (fun e => .inr (by rw [e]; exact nq)) .inl⟩
    have k0 : Kept H1 (upd H1 a (.ins (T.addr c') dx (putF f (.ref q) vs))) (fun b => b = q ∨ avo Fb F b) (avo Fb (q :: F)) := ⟨fun b u h n => by rw [upd_ne fun z => n (.inr (.inl (by rw [z]; exact mF)))]; exact h, fun b z => .inl (by
      rcases z with z | z
      · rcases List.mem_cons.mp z with z | z
        · exact .inl z
        · exact .inr (.inl z)
      · exact .inr (.inr z))⟩
    have un : ∀ b ∈ F, b ≠ a → upd H1 a (.ins (T.addr c') dx (putF f (.ref q) vs)) b = H b := fun b hb n => by rw [upd_ne n, same_at s (S.dom b hb)]
    obtain ⟨fp, q1, q2, q3⟩ := RepFs.put (post.kept (Fb := Fb)) f (f := .ol d) (v := .ref q) (p' := [q]) ⟨q, ws, rfl, rfl, by rw [upd_ne nqa]; exact hq, RepL.mono k0 d r⟩ h2 (fun b hb => un b (pF b hb) fun z => nap (by rw [← z]; exact hb)) ndp (by simp) (fun b hb z => by
      rw [List.mem_singleton.mp hb] at z
      exact nqF (pF q z))
    refine o2 σ _ (q :: F) post (k post (fun _ h => List.mem_cons_of_mem _ h) (fun b hb => ?_) q1 q2 (fun b hb => (q3 b hb).imp id fun z => by rw [List.mem_singleton.mp z]; exact ⟨List.mem_cons_self, nq⟩) upd_same fun b hb n _ => un b hb n)
    rcases List.mem_cons.mp hb with z | z
    · rw [z, upd_ne nqa, hq]; exact fun z => by cases z
    · by_cases y : b = a
      · rw [y, upd_same]; exact fun z => by cases z
      · rw [un b z y]; exact S.dom b z
  · exact False.elim o1
/-- self.f.append(..) -/
def mSelfLm (i c : Nat) (f : Str) (g : List D → List D → Res (List D)) (ms : Env → Res (List D)) : Env → Flow := fun ρ => match ρ[i]? with
  | some (.oo c' fs) => if c' = c then (match fs.lookup f with
    | some (.ol xs) => bindF (ms ρ) ρ fun ds => bindF (g xs ds) ρ fun ys => .nx (ρ.set i (.oo c (putFd f (.ol ys) fs)))
    | _ => .bad) else .bad
  | _ => .bad
theorem ms_selfLw (i c : Nat) {mid : String} {nm : Str} {p2 p3 : Pos} {g : List D → List D → Res (List D)} {ms : Env → Res (List D)} (cl : Cls X.K (T.addr c)) (na : NoAttr X.K (T.addr c) f) (hM : LstW T X mid g) (ha : ML T Fb X es ms)
    (hpe : ∀ {r : V → List V → Hp → VK → Prop} {to : TE} {t : TA}, MtR X mid r → PE X (.Attribute (.Name x p2) f p3) to → PA X es t → PE X (.Call (.Attribute (.Attribute (.Name x p2) f p3) nm apos) es [] p) (tBM X.K "list" r to t))
    (hN : X.N[i]? = some x := by rfl) (hv : Vis X.env.scope x := by first | exact Or.inl rfl | exact Or.inr (Or.inl rfl) | exact Or.inr (Or.inr rfl))
    (hd : (x == ("__debug__" : Str)) = false := by decide) (hcd : (x == ("__classdict__" : Str)) = false := by decide) (hb : attributeBase (.Name x p2) f X.env (eval (.Name x p2) X.env) = eval (.Name x p2) X.env := by rfl)
    (hs : swapsWith (.Call (.Attribute (.Attribute (.Name x p2) f p3) nm apos) es [] p) none pos.line X.env = pure false := by rfl) :
    MS T Fb X (.Expr (.Call (.Attribute (.Attribute (.Name x p2) f p3) nm apos) es [] p) pos) (mSelfLm i c f g ms) := by
  obtain ⟨r, hr, fm⟩ := hM.ex
  refine ⟨fun σ H F ρ De S o => (ps_expr (hpe hr (pe_fld (pe_var hN hv hd hcd) hb) pa_tw) hs).tw ?_⟩
  unfold mSelfLm at o
  split at o
  · rename_i c' fs e
    by_cases hc : c' = c
    · subst hc
      rw [if_pos rfl] at o
      split at o
      · rename_i xs l
        obtain ⟨a, dx, vs, pp, e1, h1, h2, mF, pF, nap, ndp, k⟩ := S.selfU e
        obtain ⟨b, ws, l2, k1, k2, k3, _⟩ := RepFs.chg f h2 l ndp
        refine ⟨_, e1, a, _, dx, vs, _, rfl, h1, cl, na, l2, .inl ⟨rfl, ws, SqL.of k1⟩, ?_⟩
        refine ha.run σ H F ρ _ S ((OutS.toOut S o).imp fun ds _ o1 us H1 s1 r1 => ?_)
        have S1 := S.same s1
        obtain ⟨a', dx', vs', pp', e1', h1', h2', mF', pF', nap', ndp', kk⟩ := S1.selfU e
        rw [e1] at e1'
        cases e1'
        obtain ⟨b', ws', l2', k1', k2', k3', kc⟩ := RepFs.chg f h2' l ndp'
        have hvs : vs' = vs := by
          have q := s1 _ _ h1
          rw [h1'] at q
          cases q
          rfl
        subst hvs
        rw [l2] at l2'
        cases l2'
        have nba : b ≠ a := fun z => nap' (by rw [← z]; exact k3')
        refine fm σ H1 (avo Fb F) b xs ds ws' us _ k1' k2' r1 ((OutS.toOut S1 (o1.same s1)).imp fun ys _ o2 zs r3 => ?_)
        have post : Post H1 F (upd H1 b (.lst zs)) F := ⟨fun d u h n => by rw [upd_ne fun z => n (by rw [z]; exact pF' b k3')]; exact h, fun _ h => .inl h⟩
        refine o2 σ _ F post (kk post (fun _ h => h) (fun d hd => ?_) (kc post.kept (fun d _ n => upd_ne n) upd_same (RepL.mono post.kept ys r3)) ndp' (fun d hd => .inl hd) (by rw [upd_ne nba.symm]; exact h1') fun d _ n1 n2 => upd_ne fun z => n2 (by rw [z]; exact k3'))
        by_cases z : d = b
        · rw [z, upd_same]; exact fun z => by cases z
        · rw [upd_ne z]; exact S1.dom d hd
      · exact False.elim o
    · rw [if_neg hc] at o; exact False.elim o
  · exact False.elim o
end
/-! ### __init__ by its body -/
def startI (l c : Nat) (ds : List D) : Env := .oo c [] :: (ds.map (fun d => Sl.v (.d d)) ++ List.replicate (l - (ds.length + 1)) .no)
def finI (c : Nat) (ρ : Env) : Res (List D) := match ρ with
  | .oo c' fs :: _ => if c' = c ∧ fs.map (·.1) = flds c then .ok (fs.map fun p => fdD p.2) else .bad
  | _ => .bad
def runI (l c : Nat) (m : Env → Flow) : List D → Res (List D) := fun ds => match m (startI l c ds) with
  | .nx ρ => finI c ρ
  | .er x _ => .err x
  | _ => .bad
theorem RepFs.whole {G : Gx} {H : Hp} {Av Av' : Addr → Prop} (ha : ∀ b, Av' b → Av b) : ∀ {fs : List (Str × Fd)} {vs : List (Str × V)} {fp : List Addr}, RepFs G H Av fs vs fp → (∀ b ∈ fp, ¬ Av' b) → RepL G H Av' (fs.map fun p => fdD p.2) (vs.map (·.2))
  | [], _, _, h, _ => by rw [h.1]; rfl
  | (n, f) :: fs, _, _, h, hn => by
    obtain ⟨v, vr, p, q, rfl, rfl, h1, h2⟩ := h
    refine ⟨v, _, rfl, ?_, RepFs.whole ha h2 fun b hb => hn b (List.mem_append_right _ hb)⟩
    cases f with
    | d x => exact Rep.mono (kept_sub ha) x h1.2
    | ol xs =>
      obtain ⟨a, ws, rfl, rfl, k1, k2⟩ := h1
      exact ⟨a, ws, rfl, ⟨k1, hn a (by simp)⟩, RepL.mono (kept_sub ha) xs k2⟩
theorem zip_fst_snd {α β : Type} : ∀ l : List (α × β), (l.map (·.1)).zip (l.map (·.2)) = l
  | [] => rfl
  | (a, b) :: l => by rw [List.map_cons, List.map_cons, List.zip_cons_cons, zip_fst_snd l]
section
variable {P : Program} {w : World} {K : PySem.W.Frag} {mg : Str → Option Value} {base : Heap} {T : CT} {x qual : Str} {params : Arguments} {body : List Stmt} {scope : Scope} {dvs : List V} {kws : List (Str × V)} {f : Addr} {fd : FuncData} {N ps : List Str} {k n c : Nat}
theorem init_ok {m : Env → Flow} (F : FunD K x qual params body scope dvs kws f fd) (S : FnScope N ps scope) (hps : ps.length = n + 1)
    (hb : ∀ (cdv : Value) (A : Around) (outer : List PySem.Env) (s : Shared) (H : Hp) (E : XK) (Fb : Gh), Room k (A.deeper (envOfC qual scope s.heap.objs.size f cdv)) → MSs T Fb (cxOf (L2.CX P w) P w K mg base N qual scope f cdv A outer s H E) body m) :
    FnOk P w K mg base (L2.CX P w) (k + 1) f fd ps (spI K T c n (runI N.length c m)) := by
  refine F.ok S (fun vs H Q E h => by rw [hps]; exact h.1) fun cdv A outer s H vs Q E hr h => ⟨_, pss_tw, ?_⟩
  obtain ⟨hl, Av, ds, a, dx, vr, rfl, hav, nax, hx, r, o⟩ := h
  have eA : (fun b => b = a ∨ Av b) = avo ⟨Av, some a⟩ [a] := funext fun b => propext ⟨fun z => z.elim (fun z => .inl (by simp [z])) .inr, fun z => z.elim (fun z => .inl (by simpa using z)) .inr⟩
  rw [eA] at r
  refine (hb cdv A outer s H E ⟨Av, some a⟩ hr).run _ H [a] (startI N.length c ds) _ ?_ ?_
  · refine ⟨⟨[a], ?_, by simp, fun b hb => hb⟩, fun b hb => ?_, fun b h => ⟨hav b h, fun z => nax ?_⟩, fun b h => ?_⟩
    · have e : N.length - (V.ref a :: vr).length = N.length - (ds.length + 1) := by rw [List.length_cons, r.length]
      unfold L2.start startI
      rw [e]
      exact ⟨some (.ref a), _, [a], [], rfl, rfl, ⟨a, dx, [], [], rfl, rfl, hx, rfl, rfl⟩, repEnv_start r⟩
    · rw [List.mem_singleton.mp hb, hx]; exact fun z => by cases z
    · rw [← List.mem_singleton.mp z]; exact h
    · cases h; exact ⟨rfl, c, [], rfl⟩
  · have kp : ∀ {H' : Hp} {F' : List Addr}, Post H [a] H' F' → ∀ b o, H b = some o → b ≠ a → H' b = some o := fun p b o h n => p.keep b o h (by simpa using n)
    unfold runI at o
    cases q : m (startI N.length c ds) with
    | nx ρ' =>
      rw [q] at o
      intro σ' H' F' p S'
      unfold finI at o
      cases ρ' with
      | nil => exact False.elim o
      | cons s0 ρ' =>
        cases s0 with
        | no => exact False.elim o
        | v g => exact False.elim o
        | oo c' fs =>
          by_cases hc : c' = c ∧ fs.map (·.1) = flds c
          · have o : (match (if c' = c ∧ fs.map (·.1) = flds c then Res.ok (fs.map fun p => fdD p.2) else .bad) with
              | .ok fs => ∀ H', (∀ b o, H b = some o → b ≠ a → H' b = some o) → Rep ⟨K, T⟩ H' Av (.obj c fs) (.ref a) → Q .non H'
              | .err z => ∀ cls d H', (∀ b o, H b = some o → b ≠ a → H' b = some o) → ExcRep ⟨K, T⟩ H' z cls d → E cls d H'
              | .bad => False) := o
            rw [if_pos hc] at o
            obtain ⟨hc1, hc2⟩ := hc
            subst hc1
            obtain ⟨a', dx', vs', p', e1, h1, h2, mF, pF, nap, ndp⟩ := S'.self (i := 0) rfl
            obtain ⟨ea, _⟩ := S'.sf a rfl
            rw [ea] at e1
            cases e1
            have nAv : ∀ b ∈ F', ¬ Av b := fun b hb z => (S'.fb b z).2 hb
            have keys : vs'.map (·.1) = flds c' := by rw [h2.keys, hc2]
            have ev : vs' = (flds c').zip (vs'.map (·.2)) := by rw [← keys, zip_fst_snd]
            have wh : RepL ⟨K, T⟩ H' Av (fs.map fun p => fdD p.2) (vs'.map (·.2)) := RepFs.whole (fun b z => .inr z) h2 fun b hb => nAv b (pF b hb)
            refine o H' (kp p) ⟨a, dx', vs'.map (·.2), rfl, ⟨by rw [← ev]; exact h1, nAv a mF⟩, ?_, wh⟩
            rw [← keys, List.length_map, List.length_map]
          · have o : (match (if c' = c ∧ fs.map (·.1) = flds c then Res.ok (fs.map fun p => fdD p.2) else .bad) with
              | .ok fs => ∀ H', (∀ b o, H b = some o → b ≠ a → H' b = some o) → Rep ⟨K, T⟩ H' Av (.obj c fs) (.ref a) → Q .non H'
              | .err z => ∀ cls d H', (∀ b o, H b = some o → b ≠ a → H' b = some o) → ExcRep ⟨K, T⟩ H' z cls d → E cls d H'
              | .bad => False) := o
            rw [if_neg hc] at o
            exact False.elim o
    | rt d ρ' => rw [q] at o; exact False.elim o
    | er z ρ' =>
      rw [q] at o
      exact ⟨_, takes_of rfl rfl rfl rfl, fun cls d σ' H' F' p S' r => o cls d H' (kp p) r⟩
    | bad => rw [q] at o; exact False.elim o
end
end Cr
/-! Core, part 13: lists or tuples, whichever; the law's end. -/
namespace Cr
open PySem PySem.Spec PyProof.Rows L2
theorem pi_or {X : Cx} {tg e : Expr} {w1 w2 : TI} (h1 : PI X tg e w1) (h2 : PI X tg e w2) : PI X tg e (fun σ H R => w1 σ H R ∨ w2 σ H R) :=
  ⟨fun pins s σ H R I h => h.elim (h1.run pins s σ H R I) (h2.run pins s σ H R I)⟩
section
variable {T : CT} {Fb : Gh} {X : Cx} {e a b c o tg iter elt : Expr} {es ifs : List Expr} {me ma mb : Env → Res D} {pos p apos : Pos} {x : Str} {n : Nat} {vs : List Nat}
def seqOf : D → Res (List D)
  | .lst xs => .ok xs
  | .tup xs => .ok xs
  | _ => .bad
theorem mi_seq (h : ME T Fb X e me) : MI T Fb X tg e (mUnF seqOf me) := by
  obtain ⟨w1, p1, f1⟩ := (mi_list (tg := tg) h).ex
  obtain ⟨w2, p2, f2⟩ := (mi_tup (tg := tg) h).ex
  refine ⟨_, pi_or p1 p2, fun σ H F ρ R S o => ?_⟩
  unfold mUnF at o
  cases q : me ρ with
  | bad => rw [q] at o; exact False.elim o
  | err z => rw [q] at o; exact .inl (f1 σ H F ρ R S (by unfold mUnF; rw [q]; exact o))
  | ok d =>
    rw [q] at o
    cases d with
    | lst xs => exact .inl (f1 σ H F ρ R S (by unfold mUnF; rw [q]; exact o))
    | tup xs => exact .inr (f2 σ H F ρ R S (by unfold mUnF; rw [q]; exact o))
    | _ => exact False.elim o
theorem mib_seq (h : MB T Fb X e me) (ht : ME T Fb X e me) : MIb T Fb X tg e (mUnF seqOf me) := by
  obtain ⟨w1, p1, f1⟩ := (mib_list (tg := tg) h).ex
  obtain ⟨w2, p2, f2⟩ := (mi_tup (tg := tg) ht).b.ex
  refine ⟨_, pi_or p1 p2, fun σ H F ρ R S o => ?_⟩
  unfold mUnF at o
  cases q : me ρ with
  | bad => rw [q] at o; exact False.elim o
  | err z => rw [q] at o; exact .inl (f1 σ H F ρ R S (by unfold mUnF; rw [q]; exact o))
  | ok d =>
    rw [q] at o
    cases d with
    | lst xs => exact .inl (f1 σ H F ρ R S (by unfold mUnF; rw [q]; exact o))
    | tup xs => exact .inr (f2 σ H F ρ R S (by unfold mUnF; rw [q]; exact o))
    | _ => exact False.elim o
def gQ (gs : List D → Env → Option Env) : D → Env → Option Env := fun d ρ => match d with
  | .tup xs => gs xs ρ
  | .lst xs => gs xs ρ
  | _ => none
theorem mg_seq {j : Nat} {gs : List D → Env → Option Env} (hc : X.calm = true) (h : MGs T Fb X es vs gs) (hlen : ∀ ds ρ ρ', gs ds ρ = some ρ' → ds.length = n) (hn : (assignEach es X.env).length = n := by rfl) (hst : (assignEach es X.env).findIdx? (·.1) = none := by rfl) :
    MG T Fb X (.Tuple es j pos) vs (gQ gs) := by
  refine ⟨fun σ H F ρ ρ' d v Q S r eq hQ => ?_⟩
  cases d with
  | tup xs => exact (mg_tup hc h hlen hn hst).run σ H F ρ ρ' _ v Q S r eq hQ
  | lst xs => exact (mg_lst hc h hlen hn hst).run σ H F ρ ρ' _ v Q S r eq hQ
  | _ => cases eq
/-- a + b, lists -/
def addL : D → D → Res (List D)
  | .lst a, .lst b => if a.length + b.length ≤ sizeLine then .ok (a ++ b) else .bad
  | _, _ => .bad
def mBinF (g : D → D → Res (List D)) (ma mb : Env → Res D) : Env → Res (List D) := fun ρ => ma ρ >>= fun x => mb ρ >>= fun y => g x y
theorem mf_add (ha : MB T Fb X a ma) (hb : MB T Fb X b mb) : MF T Fb X (.BinOp a .Add b pos) (mBinF addL ma mb) := by
  refine ⟨fun σ H F ρ Q S o => (pe_op op_cat pe_tw pe_tw).tw ?_⟩
  refine ha.run σ H F ρ _ S (o.bind.imp fun x _ o1 v H1 s1 r1 => ?_)
  refine hb.run σ H1 F ρ _ (S.same s1) ((o1.same s1).bind.imp fun y _ o2 u H2 s2 r2 => ?_)
  have r1 := r1.same s2
  cases x <;> cases y <;> try exact False.elim o2
  obtain ⟨hz, f⟩ := o2.if
  obtain ⟨a, vs, rfl, ha, rv⟩ := r1
  obtain ⟨b, ws, rfl, hb, rw'⟩ := r2
  refine ⟨a, b, vs, ws, rfl, rfl, ha, hb, by rw [rv.length, rw'.length]; exact hz, fun p hp => ?_⟩
  have s := s1.trans s2
  exact f p _ _ (s.free hp) (s.trans (same_upd hp)) upd_same ((rv.append rw').new hp)
end
/-! ### the law's end -/
theorem law_sp {K : PySem.W.Frag} {T : CT} {m : List D → Res D} (h : ∀ ns : List Int, ns.length ≤ 63 → m [.scr ns] = .ok (.bl true)) (H : Hp) (a : Addr) (ns : List Int) (hl : ns.length ≤ 63) (hS : SqL K H a (ns.map V.int)) :
    spD K T 1 m [.ref a] H (fun v _ => v = .bl true) fun _ _ _ => False := by
  refine ⟨rfl, fun _ => False, [.scr ns], fun _ z => z.elim, ⟨_, [], rfl, ⟨a, rfl, ?_⟩, rfl⟩, ?_⟩
  · rcases hS with h | h
    · exact .inl ⟨h, fun z => z⟩
    · exact .inr h
  · rw [h ns hl]
    exact fun v H' _ r => r
end Cr
/-! Core, part 14: what the head says. -/
namespace Cr
open PySem PySem.Spec PyProof.Rows L2
abbrev Fg := PySem.W.Frag
def obsX (fa : List He.Fa) (fn : List He.DefD) (xs : List (Fg → Bool)) (K : Fg) : He.AlD := (((fa.all fun f => f.ok K) && fn.all fun d => d.ok K) && (xs.all fun f => f K), fn.map fun d => He.fnW K d.at_)
def SaysX (fa : List He.Fa) (fn : List He.DefD) (xs : List (Fg → Bool)) (K : Fg) : Prop := obsX fa fn xs K = He.valD fn
def obsXG (n : Nat) (fa : List He.Fa) (fn : List He.DefD) (xs : List (Fg → Bool)) (g : Addr → Option Obj) : He.AlD := obsX fa fn xs (He.frG g (He.asD g n))
def hookX (n : Nat) (fa : List He.Fa) (fn : List He.DefD) (xs : List (Fg → Bool)) : PySem.W.Hook where
  α := He.AlD
  obs := fun s => obsXG n fa fn xs s.heap.get?
  val := fun _ => He.valD fn
  says := fun _ h => ∃ K : PySem.W.Frag, K.In h ∧ SaysX fa fn xs K
  of := fun _ _ e => ⟨_, He.frG_in, e⟩
  keeps := fun _ _ _ ⟨K, hK, c⟩ k => ⟨K, PySem.W.Frag.In.keeps hK k, c⟩
theorem obsXG_eq {n : Nat} {fa : List He.Fa} {fn : List He.DefD} {xs : List (Fg → Bool)} {g : Addr → Option Obj} {s : Shared} (h : ∀ a, g a = s.heap.get? a) : obsXG n fa fn xs g = (hookX n fa fn xs).obs s := by
  have e : g = s.heap.get? := funext h
  rw [e] <;> rfl
section
variable {fa : List He.Fa} {fn : List He.DefD} {xs : List (Fg → Bool)} {K : Fg}
theorem SaysX.d (c : SaysX fa fn xs K) : He.SaysD fa fn K := by
  have c1 := (He.ba (show (((fa.all fun f => f.ok K) && fn.all fun d => d.ok K) && (xs.all fun f => f K)) = true from congrArg (fun z : He.AlD => z.1) c)).1
  have c2 : fn.map (fun d => He.fnW K d.at_) = fn.map He.DefD.val := congrArg (fun z : He.AlD => z.2) c
  show (((fa.all fun f => f.ok K) && fn.all fun d => d.ok K, fn.map fun d => He.fnW K d.at_) : He.AlD) = (true, fn.map He.DefD.val)
  rw [c1, c2]
theorem SaysX.x (c : SaysX fa fn xs K) (i : Nat) {f : Fg → Bool} (h : xs[i]? = some f := by rfl) : f K = true := by
  have c1 := (He.ba (show (((fa.all fun f => f.ok K) && fn.all fun d => d.ok K) && (xs.all fun f => f K)) = true from congrArg (fun z : He.AlD => z.1) c)).2
  exact List.all_eq_true.mp c1 f (List.mem_of_getElem? h)
end
/-- what a law's walk leans on -/
structure Wt (fa : List He.Fa) (fn : List He.DefD) (xs : List (Fg → Bool)) (K : Fg) (mg : Str → Option Value) : Prop where
  ex : ∃ h : Heap, K.In h ∧ h.Ns mainGlobals mg
  c : SaysX fa fn xs K
section
variable {fa : List He.Fa} {fn : List He.DefD} {xs : List (Fg → Bool)} {K : Fg} {mg : Str → Option Value}
theorem Wt.free (A : Wt fa fn xs K mg) (i : Nat) {x : Str} (h : fa[i]? = some (.free x) := by rfl) : mg x = none := by
  obtain ⟨hp, X, G⟩ := A.ex
  exact He.free_ok X G (A.c.d.fact i h)
theorem Wt.glo (A : Wt fa fn xs K mg) (i : Nat) {x : Str} (h : fa[i]? = some (.glo x) := by rfl) : mg x = some (.ref (He.ga K x)) := by
  obtain ⟨hp, X, G⟩ := A.ex
  exact He.glo_ok X G (A.c.d.fact i h)
theorem Wt.cls (A : Wt fa fn xs K mg) (i : Nat) {x : Str} (h : fa[i]? = some (.cls x) := by rfl) : Cls K (He.ga K x) := He.cls_ok (A.c.d.fact i h)
theorem Wt.noat (A : Wt fa fn xs K mg) (i : Nat) {x f : Str} (h : fa[i]? = some (.noat x f) := by rfl) : NoAttr K (He.ga K x) f := He.noat_ok (A.c.d.fact i h)
theorem Wt.meth (A : Wt fa fn xs K mg) (i : Nat) {x f : Str} (h : fa[i]? = some (.meth x f) := by rfl) : Meth K (He.ga K x) f (He.ma K (He.ga K x) f) := He.meth_ok (A.c.d.fact i h)
theorem Wt.mkr (A : Wt fa fn xs K mg) (i : Nat) {x : Str} (h : fa[i]? = some (.mkr x) := by rfl) : Mk K (He.ga K x) (He.ma K (He.ga K x) "__init__") := He.mkr_ok (A.c.d.fact i h)
theorem Wt.exc (A : Wt fa fn xs K mg) (i j : Nat) {T : CT} {c : Nat} {x : Str} (h : fa[i]? = some (.exc x) := by rfl) (h2 : fa[j]? = some (.glo x) := by rfl) (e : T.addr c = He.ga K x := by rfl) : ExAt K mg T c x := by
  obtain ⟨c1, c2, c3, c4⟩ := He.exc_ok (A.c.d.fact i h)
  exact ⟨by rw [e]; exact A.glo j h2, by rw [e]; exact c1, by rw [e]; exact c2, by rw [e]; exact c3, by rw [e]; exact c4⟩
theorem Wt.exm (A : Wt fa fn xs K mg) (i : Nat) {x y : Str} {b : Bool} (h : fa[i]? = some (.exm x y b) := by rfl) : PySem.W.exmOne K (.ref (He.ga K x)) (.ref (He.ga K y)) = some b := He.exm_ok (A.c.d.fact i h)
theorem Wt.int (A : Wt fa fn xs K mg) {T : CT} (i : Nat) {x : Str} {n : Int} (h : fa[i]? = some (.int x n) := by rfl) : GloD K T mg x (.int n) := by
  obtain ⟨hp, X, G⟩ := A.ex
  obtain ⟨t, e⟩ := He.int_ok X G (A.c.d.fact i h)
  exact ⟨_, .int n, e, ⟨t, rfl⟩, fun _ _ => rfl⟩
theorem Wt.str (A : Wt fa fn xs K mg) {T : CT} (i : Nat) {x z : Str} (h : fa[i]? = some (.str x z) := by rfl) : GloD K T mg x (.str z) := by
  obtain ⟨hp, X, G⟩ := A.ex
  obtain ⟨t, e⟩ := He.str_ok X G (A.c.d.fact i h)
  exact ⟨_, .str z, e, ⟨t, rfl⟩, fun _ _ => rfl⟩
theorem KTup.of {K : Fg} {a : Addr} {vs : List V} (h : ∀ H, SqT K H a vs) : KTup K a vs := by
  rcases h (fun _ => none) with h | h
  · rcases h with h | ⟨o, h⟩ <;> cases h
  · exact h
/-- a tuple of flat things -/
theorem Wt.tup (A : Wt fa fn xs K mg) {T : CT} (i j : Nat) {x : Str} {ds : List D} {dv : List He.Dv} (h : xs[i]? = some (fun K => He.tupB K x dv) := by rfl) (h2 : fa[j]? = some (.glo x) := by rfl) (hr : ∀ H Av, RepL ⟨K, T⟩ H Av ds (dv.map (He.Dv.v K))) : GloD K T mg x (.tup ds) :=
  ⟨_, .ref (He.ga K x), A.glo j h2, rfl, fun H Av => ⟨_, _, rfl, .inr (KTup.of fun H => He.tupB_ok (A.c.x i h) H), hr H Av⟩⟩
theorem Wt.def_ (A : Wt fa fn xs K mg) (i : Nat) {d : He.DefD} (h : fn[i]? = some d := by rfl) : ∃ fd, FunD K d.name d.qual d.params d.body d.scope (d.dvs K) (d.kws K) (He.fAd K d.at_) fd := A.c.d.def_ i h
end
/-- how arguments bind, no defaults -/
theorem binds_n {K : Fg} {x qual : Str} {params : Arguments} {body : List Stmt} {scope : Scope} {kws : List (Str × V)} {f : Addr} {fd : FuncData} {ps : List Str} (F : FunD K x qual params body scope [] kws f fd)
    (h : ∀ (kV doc pm : Value) (an : Option Addr) (cdv ct : Value) (us : List Value), us.length = ps.length → bindArgs (PySem.W.fnOf x qual params body scope .none kV doc pm an cdv ct) ⟨us, []⟩ = pure (ps.zip us)) : Binds K fd ps [] := F.bindsN h
end Cr
/-! Core, part 15: the law's promise, with no exception. -/
namespace Cr
open PySem PySem.Spec PyProof.Rows L2
section
variable {P : Program} {w : World} {K : PySem.W.Frag} {mg : Str → Option Value} {base : Heap} {k : Nat} {f : Addr} {fd : FuncData} {ps : List Str} {sp : Sp}
abbrev CXN : CXT := fun _ _ _ _ _ _ => False
def noE (sp : Sp) : Sp := fun vs H Q _ => sp vs H Q fun _ _ _ => False
theorem fn_no (F : FnOk P w K mg base (L2.CX P w) k f fd ps sp) : FnOk P w K mg base CXN k f fd ps (noE sp) := by
  refine ⟨fun vs H Q E h => F.len vs H Q _ h, fun A outer s H args us vs Q E hr he hb hv hs => codeAny_mono (F.run A outer s H args us vs Q _ hr he hb hv hs) fun r s' z => ?_⟩
  cases r with
  | ok x => cases x <;> first | exact z | exact False.elim z
  | error e =>
    obtain ⟨_, _, _, _, _, _, _, _, _, _, _, _, z⟩ := z
    exact False.elim z
end
end Cr
namespace Cr
open PySem L2
/-! the mirrors of law_k05_trains, printed by gen.py -/
def b_is_interval : Env → Flow := (mRet (mAndV (mBin eqD (mArg lenD (mCons (mVar 0) mNil)) (mC (.int 2))) (mBin leD (mBin idxD (mVar 0) (mC (.int 0))) (mBin idxD (mVar 0) (mC (.int 1))))))
def m_is_interval : List D → Res D := runD 1 b_is_interval
def b_train_init : Env → Flow := (mSeq (mIfS (mNot (mTst (mChain leD leD (mC (.int 1)) (mVar 1) (mC (.int 100))))) (mRaise (.own 3)) mEnd) (mSeq (mIfS (mOr (mNot (mTst (mArg m_is_interval (mCons (mVar 2) mNil)))) (mOr (mTst (mBin ltD (mBin idxD (mVar 2) (mC (.int 0))) (mC (.int 0)))) (mTst (mBin gtD (mBin idxD (mVar 2) (mC (.int 1))) (mC (.int 100000)))))) (mRaise (.own 3)) mEnd) (mSeq (mIfS (mOr (mNot (mTst (mArg m_is_interval (mCons (mVar 3) mNil)))) (mOr (mTst (mBin ltD (mBin idxD (mVar 3) (mC (.int 0))) (mC (.int 1)))) (mTst (mBin gtD (mBin idxD (mVar 3) (mC (.int 1))) (mC (.int 1000000)))))) (mRaise (.own 3)) mEnd) (mSeq (mIfS (mOr (mNot (mTst (mChain leD leD (mC (.int 1)) (mVar 4) (mC (.int 10000000))))) (mNot (mTst (mChain leD leD (mC (.int 1)) (mVar 5) (mC (.int 10000000)))))) (mRaise (.own 3)) mEnd) (mSeq (mSelfSet 0 21 "length" (mVar 1)) (mSeq (mSelfSet 0 21 "friction" (mVar 2)) (mSeq (mSelfSet 0 21 "brake" (mVar 3)) (mSeq (mSelfSet 0 21 "lift" (mVar 4)) (mSelfSet 0 21 "drive" (mVar 5))))))))))
def m_train_init : List D → Res (List D) := runI 6 21 b_train_init
def b_law_cell : Env → Flow := (mSeq (mIfS (mTst (mBin ltD (mVar 1) (mArg lenD (mCons (mVar 0) mNil)))) (mRet (mArg absD (mCons (mArg intD (mCons (mBin idxD (mVar 0) (mVar 1)) mNil)) mNil))) mEnd) (mRet (mC (.int 0))))
def m_law_cell : List D → Res D := runD 2 b_law_cell
def b_law_draws : Env → Flow := (mSeq (mSetO 2 (mLst mNil)) (mSeq (mSet 3 (mVar 0)) (mSeq (mFor (mArg rng1 (mCons (mVar 1) mNil)) (gN 4) (mIfS (mAnd (mTst (mBin geD (mVar 0) (mBin powD (mC (.int 10)) (mC (.int 18))))) (mTst (mBin gtD (mVar 3) (mC (.int 0))))) (mSeq (mLm 2 appG (mCons (mBin modD (mArg intD (mCons (mVar 3) mNil)) (mC (.int 4096))) mNil)) (mSet 3 (mBin fdivD (mVar 3) (mC (.int 4096))))) (mSeq (mSet 5 (mBin modD (mArg intD (mCons (mBin addD (mBin mulD (mVar 0) (mC (.int 48271))) (mBin mulD (mBin addD (mVar 4) (mC (.int 1))) (mC (.int 69621)))) mNil)) (mC (.int 2147483647)))) (mSeq (mSet 5 (mBin modD (mArg intD (mCons (mBin addD (mBin addD (mBin mulD (mVar 5) (mVar 5)) (mBin mulD (mVar 5) (mC (.int 16807)))) (mBin mulD (mVar 4) (mC (.int 7919)))) mNil)) (mC (.int 2147483629)))) (mSeq (mSet 5 (mBin modD (mArg intD (mCons (mBin addD (mBin addD (mBin mulD (mVar 5) (mVar 5)) (mVar 0)) (mBin mulD (mC (.int 13)) (mVar 4))) mNil)) (mC (.int 2147483587)))) (mLm 2 appG (mCons (mBin modD (mBin fdivD (mVar 5) (mC (.int 7))) (mC (.int 4096))) mNil))))))) (mFrz 2 (mRet (mVar 2))))))
def m_law_draws : List D → Res D := runD 6 b_law_draws
def b_law_like (m_law_like : List D → Res D) : Env → Flow := (mSeq (mIfS (mTst (mBin isNonD (mVar 1) (mC .non))) (mRet (mBin isNonD (mVar 0) (mC .non))) mEnd) (mSeq (mIfS (mTst (mUn (isiD .bool) (mVar 1))) (mRet (mAndV (mUn (isiD .bool) (mVar 0)) (mBin eqD (mVar 0) (mVar 1)))) mEnd) (mSeq (mIfS (mTst (mUn (isiD .str) (mVar 1))) (mRet (mAndV (mUn (isiD .str) (mVar 0)) (mBin eqD (mVar 0) (mVar 1)))) mEnd) (mSeq (mIfS (mTst (mUn (isiD .int) (mVar 1))) (mRet (mAndV (mUn (isiD .int) (mVar 0)) (mAndV (mNotV (mUn (isiD .bool) (mVar 0))) (mBin eqD (mVar 0) (mVar 1))))) mEnd) (mSeq (mIfS (mOr (mTst (mBin neD (mUn (isiD .list) (mVar 1)) (mUn (isiD .list) (mVar 0)))) (mTst (mBin neD (mUn (isiD .tuple) (mVar 1)) (mUn (isiD .tuple) (mVar 0))))) (mRet (mC (.bl false))) mEnd) (mSeq (mIfS (mTst (mBin neD (mArg lenD (mCons (mVar 0) mNil)) (mArg lenD (mCons (mVar 1) mNil)))) (mRet (mC (.bl false))) mEnd) (mRet (mArg allD (mCons (toE (mComp [2] (mArg rng1 (mCons (mArg lenD (mCons (mVar 1) mNil)) mNil)) (gN 2) mYes (mArg m_law_like (mCons (mBin idxD (mVar 0) (mVar 2)) (mCons (mBin idxD (mVar 1) (mVar 2)) mNil))))) mNil)))))))))
def m_law_like : Nat → List D → Res D
  | 0 => fun _ => .bad
  | n + 1 => runD 3 (b_law_like (m_law_like n))
def b_law_drawn_train : Env → Flow := (mSeq (mSet 1 (mBin modD (mBin idxD (mVar 0) (mC (.int 0))) (mC (.int 400)))) (mSeq (mSet 2 (mBin addD (mC (.int 5000)) (mBin mulD (mC (.int 73)) (mBin idxD (mVar 0) (mC (.int 1)))))) (mRet (toE (mLst (mCons (mBin addD (mC (.int 1)) (mBin modD (mBin idxD (mVar 0) (mC (.int 2))) (mC (.int 4)))) (mCons (mTup (mCons (mVar 1) (mCons (mBin addD (mVar 1) (mBin modD (mBin idxD (mVar 0) (mC (.int 3))) (mC (.int 900)))) mNil))) (mCons (mTup (mCons (mVar 2) (mCons (mBin addD (mVar 2) (mBin mulD (mC (.int 10)) (mBin idxD (mVar 0) (mC (.int 4))))) mNil))) (mCons (mBin addD (mC (.int 1)) (mBin mulD (mC (.int 30)) (mBin idxD (mVar 0) (mC (.int 5))))) (mCons (mBin addD (mC (.int 1)) (mBin mulD (mC (.int 20)) (mBin idxD (mVar 0) (mC (.int 6))))) mNil))))))))))
def m_law_drawn_train : List D → Res D := runD 3 b_law_drawn_train
def b_law_made : Env → Flow := (mSeq (mTry [3] 3 (mEx (mMk 21 m_train_init (mCons (mBin idxD (mVar 0) (mC (.int 0))) (mCons (mBin idxD (mVar 0) (mC (.int 1))) (mCons (mBin idxD (mVar 0) (mC (.int 2))) (mCons (mBin idxD (mVar 0) (mC (.int 3))) (mCons (mBin idxD (mVar 0) (mC (.int 4))) mNil))))))) (mRet (mC (.bl false)))) (mRet (mC (.bl true))))
def m_law_made : List D → Res D := runD 1 b_law_made
def b_law : Env → Flow := (mSeq (mSet 1 (mArg m_law_draws (mCons (mArg m_law_cell (mCons (mVar 0) (mCons (mC (.int 0)) mNil))) (mCons (mC (.int 12)) mNil)))) (mSeq (mSet 2 (mArg m_law_drawn_train (mCons (mVar 1) mNil))) (mSeq (mSet 3 (mMk 21 m_train_init (mCons (mBin idxD (mVar 2) (mC (.int 0))) (mCons (mBin idxD (mVar 2) (mC (.int 1))) (mCons (mBin idxD (mVar 2) (mC (.int 2))) (mCons (mBin idxD (mVar 2) (mC (.int 3))) (mCons (mBin idxD (mVar 2) (mC (.int 4))) mNil))))))) (mSeq (mIfS (mNot (mTst (mArg (m_law_like 8) (mCons (toE (mLst (mCons (mUn (fldD 21 0) (mVar 3)) (mCons (mUn (fldD 21 1) (mVar 3)) (mCons (mUn (fldD 21 2) (mVar 3)) (mCons (mUn (fldD 21 3) (mVar 3)) (mCons (mUn (fldD 21 4) (mVar 3)) mNil))))))) (mCons (mVar 2) mNil))))) (mRet (mC (.bl false))) mEnd) (mSeq (mSet 4 (mBin modD (mArg intD (mCons (mArg m_law_cell (mCons (mVar 0) (mCons (mC (.int 1)) mNil))) mNil)) (mBin powD (mC (.int 10)) (mC (.int 30))))) (mSeq (mSet 5 (mBin modD (mBin idxD (mVar 1) (mC (.int 8))) (mC (.int 1000)))) (mSeq (mSet 6 (toE (mLst (mCons (toE (mLst (mCons (mC (.int 1)) (mCons (mTup (mCons (mC (.int 0)) (mCons (mC (.int 0)) mNil))) (mCons (mTup (mCons (mC (.int 1)) (mCons (mC (.int 1)) mNil))) (mCons (mC (.int 1)) (mCons (mC (.int 1)) mNil))))))) (mCons (toE (mLst (mCons (mC (.int 100)) (mCons (mTup (mCons (mC (.int 100000)) (mCons (mC (.int 100000)) mNil))) (mCons (mTup (mCons (mC (.int 1000000)) (mCons (mC (.int 1000000)) mNil))) (mCons (mC (.int 10000000)) (mCons (mC (.int 10000000)) mNil))))))) (mCons (toE (mLst (mCons (mC (.int 5)) (mCons (mTup (mCons (mVar 5) (mCons (mC (.int 100000)) mNil))) (mCons (mTup (mCons (mBin addD (mC (.int 1)) (mVar 5)) (mCons (mC (.int 1000000)) mNil))) (mCons (mC (.int 1)) (mCons (mC (.int 10000000)) mNil))))))) mNil)))))) (mSeq (mIfS (mNot (mTst (mArg allD (mCons (toE (mComp [10] (mUnF seqOf (mVar 6)) (gN 10) mYes (mArg m_law_made (mCons (mVar 10) mNil)))) mNil)))) (mRet (mC (.bl false))) mEnd) (mSeq (mSet 7 (toE (mLst (mCons (mTup (mCons (mC (.int 0)) (mCons (mBin subD (mC (.int 0)) (mVar 4)) mNil))) (mCons (mTup (mCons (mC (.int 0)) (mCons (mBin addD (mC (.int 101)) (mVar 4)) mNil))) (mCons (mTup (mCons (mC (.int 1)) (mCons (mTup (mCons (mBin addD (mVar 5) (mC (.int 1))) (mCons (mVar 5) mNil))) mNil))) (mCons (mTup (mCons (mC (.int 1)) (mCons (mTup (mCons (mBin subD (mUn negD (mC (.int 1))) (mVar 5)) (mCons (mC (.int 5)) mNil))) mNil))) (mCons (mTup (mCons (mC (.int 1)) (mCons (mTup (mCons (mVar 5) (mCons (mBin addD (mC (.int 100001)) (mVar 4)) mNil))) mNil))) (mCons (mTup (mCons (mC (.int 2)) (mCons (mTup (mCons (mC (.int 0)) (mCons (mC (.int 5)) mNil))) mNil))) (mCons (mTup (mCons (mC (.int 2)) (mCons (mTup (mCons (mBin addD (mVar 5) (mC (.int 2))) (mCons (mBin addD (mVar 5) (mC (.int 1))) mNil))) mNil))) mNil)))))))))) (mSeq (mSet 7 (mBin addD (mVar 7) (toE (mLst (mCons (mTup (mCons (mC (.int 2)) (mCons (mTup (mCons (mC (.int 5)) (mCons (mBin addD (mC (.int 1000001)) (mVar 4)) mNil))) mNil))) (mCons (mTup (mCons (mC (.int 3)) (mCons (mBin subD (mC (.int 0)) (mVar 4)) mNil))) (mCons (mTup (mCons (mC (.int 3)) (mCons (mBin addD (mC (.int 10000001)) (mVar 4)) mNil))) (mCons (mTup (mCons (mC (.int 4)) (mCons (mBin subD (mC (.int 0)) (mVar 4)) mNil))) (mCons (mTup (mCons (mC (.int 4)) (mCons (mBin addD (mC (.int 10000001)) (mVar 4)) mNil))) mNil))))))))) (mSeq (mFor (mUnF seqOf (mVar 7)) (gQ (gSc (gN 8) (gSc (gN 9) gS0))) (mIfS (mTst (mArg m_law_made (mCons (mBin addD (mBin addD (mSl cutD (mVar 2) mNo (mPart (mVar 8))) (toE (mLst (mCons (mVar 9) mNil)))) (mSl cutD (mVar 2) (mPart (mBin addD (mVar 8) (mC (.int 1)))) mNo)) mNil))) (mRet (mC (.bl false))) mEnd)) (mRet (mC (.bl true))))))))))))))
def m_law : List D → Res D := runD 11 b_law
end Cr
namespace Cr
open PySem PySem.Spec PyProof.Rows L2
/-! the derivations of law_k05_trains, printed by gen.py -/
def top (i : Nat) : Stmt := PySem.Challenge.pw_coastersafe_k05_trains.main.body.getD i (.Pass ⟨0, 0, 0, 0⟩)
abbrev s_is_interval : Stmt := (top 4)
abbrev s_train_init : Stmt := (inClass (top 10) 0)
abbrev s_law_cell : Stmt := (top 12)
abbrev s_law_draws : Stmt := (top 13)
abbrev s_law_like : Stmt := (top 14)
abbrev s_law_drawn_train : Stmt := (top 15)
abbrev s_law_made : Stmt := (top 16)
abbrev s_law : Stmt := (top 17)
def ct (K : Fg) : CT := ⟨fun c => match c with
  | 0 => He.ga K "CoasterError"
  | 3 => He.ga K "InvalidTrain"
  | 21 => He.ga K "Train"
  | _ => 0⟩
def d_is_interval : He.DefD := ⟨("is_interval", none), "is_interval", "is_interval", defArgs s_is_interval, defBody s_is_interval, defScope s_is_interval, [], []⟩
def d_train_init : He.DefD := ⟨("Train", some "__init__"), "__init__", "Train.__init__", defArgs s_train_init, defBody s_train_init, defScope s_train_init, [], []⟩
def d_law_cell : He.DefD := ⟨("_law_cell", none), "_law_cell", "_law_cell", defArgs s_law_cell, defBody s_law_cell, defScope s_law_cell, [], []⟩
def d_law_draws : He.DefD := ⟨("_law_draws", none), "_law_draws", "_law_draws", defArgs s_law_draws, defBody s_law_draws, defScope s_law_draws, [], []⟩
def d_law_like : He.DefD := ⟨("_law_like", none), "_law_like", "_law_like", defArgs s_law_like, defBody s_law_like, defScope s_law_like, [], []⟩
def d_law_drawn_train : He.DefD := ⟨("_law_drawn_train", none), "_law_drawn_train", "_law_drawn_train", defArgs s_law_drawn_train, defBody s_law_drawn_train, defScope s_law_drawn_train, [], []⟩
def d_law_made : He.DefD := ⟨("_law_made", none), "_law_made", "_law_made", defArgs s_law_made, defBody s_law_made, defScope s_law_made, [], []⟩
def d_law : He.DefD := ⟨("law", none), "law", "law", defArgs s_law, defBody s_law, defScope s_law, [], []⟩
def fa : List He.Fa := [.free "len", .int "MOST_LENGTH" 100, .exc "InvalidTrain", .glo "InvalidTrain", .int "MOST_FRICTION" 100000, .int "MOST_BRAKE" 1000000, .int "MOST_ENERGY" 10000000, .cls "Train", .noat "Train" "length", .noat "Train" "friction", .noat "Train" "brake", .noat "Train" "lift", .noat "Train" "drive", .free "abs", .free "int", .free "range", .free "isinstance", .free "bool", .free "str", .free "list", .free "tuple", .free "all", .exm "InvalidTrain" "InvalidTrain" true, .glo "is_interval", .glo "Train", .mkr "Train", .glo "_law_cell", .glo "_law_draws", .glo "_law_like", .glo "_law_drawn_train", .glo "_law_made", .glo "law"]
def fn : List He.DefD := [d_is_interval,
  d_train_init,
  d_law_cell,
  d_law_draws,
  d_law_like,
  d_law_drawn_train,
  d_law_made,
  d_law]
def xs : List (Fg → Bool) := []
section
variable {P : Program} {w : World} {K : Fg} {mg : Str → Option Value} {base : Heap}
theorem sc_is_interval : FnScope ["pair"] ["pair"] (defScope s_is_interval) := ⟨rfl, rfl, rfl, by decide +kernel, rfl, by decide +kernel, by decide +kernel⟩
theorem at_is_interval (A : Wt fa fn xs K mg) : FnAt P w K mg base (ct K) 1 "is_interval" 1 m_is_interval := by
  obtain ⟨fd, F⟩ := A.def_ 0 (d := d_is_interval) rfl
  have F : FunD K "is_interval" "is_interval" (defArgs s_is_interval) (defBody s_is_interval) (defScope s_is_interval) [] [] (He.fAd K ("is_interval", none)) fd := F
  have hb : Binds K fd ["pair"] [] := binds_n F fun _ _ _ _ _ _ us hl => match us, hl with | [_], _ => rfl
  have hg : mg "is_interval" = some (.ref (He.ga K "is_interval")) := A.glo 23
  have hg : mg "is_interval" = some (.ref (He.fAd K ("is_interval", none))) := hg
  have hk := F.kp
  have z : FnOk P w K mg base (L2.CX P w) (0 + 1) (He.fAd K ("is_interval", none)) fd ["pair"] (spD K (ct K) 1 (runD 1 b_is_interval)) := by
    refine fn_ok (k := 0) (N := ["pair"]) (n := 1) (m := b_is_interval) F sc_is_interval rfl fun cdv A0 outer s H E Fb hr => ?_
    exact (mss_one (ms_ret (me_and (me_cmp (om_eq (hr).units) ((me_bi cm_len (A.free 0) (by decide +kernel) (mlb_cons ((me_var 0)).toB mlb_nil))).toB (me_int).toB) (me_one (me_cmp om_le ((me_ix ((me_var 0)).toB (me_int).toB)).toB ((me_ix ((me_var 0)).toB (me_int).toB)).toB)))))
  exact ⟨(He.fAd K ("is_interval", none)), fd, ["pair"], z, hg, hk, hb⟩
theorem sc_train_init : FnScope ["self", "length", "friction", "brake", "lift", "drive"] ["self", "length", "friction", "brake", "lift", "drive"] (defScope s_train_init) := ⟨rfl, rfl, rfl, by decide +kernel, rfl, by decide +kernel, by decide +kernel⟩
theorem at_train_init (A : Wt fa fn xs K mg) : MkAt P w K mg base (ct K) 2 21 "Train" 5 m_train_init := by
  obtain ⟨fd, F⟩ := A.def_ 1 (d := d_train_init) rfl
  have F : FunD K "__init__" "Train.__init__" (defArgs s_train_init) (defBody s_train_init) (defScope s_train_init) [] [] (He.fAd K ("Train", some "__init__")) fd := F
  have hb : Binds K fd ["self", "length", "friction", "brake", "lift", "drive"] [] := binds_n F fun _ _ _ _ _ _ us hl => match us, hl with | [_, _, _, _, _, _], _ => rfl
  have hg : mg "Train" = some (.ref (He.ga K "Train")) := A.glo 24
  have hk : Mk K (He.ga K "Train") (He.ma K (He.ga K "Train") "__init__") := A.mkr 25
  have hk : Mk K (He.ga K "Train") (He.fAd K ("Train", some "__init__")) := hk
  have z : FnOk P w K mg base (L2.CX P w) (1 + 1) (He.fAd K ("Train", some "__init__")) fd ["self", "length", "friction", "brake", "lift", "drive"] (spI K (ct K) 21 5 (runI 6 21 b_train_init)) := by
    refine init_ok (k := 1) (N := ["self", "length", "friction", "brake", "lift", "drive"]) (n := 5) (c := 21) (m := b_train_init) F sc_train_init rfl fun cdv A0 outer s H E Fb hr => ?_
    exact (mss_cons (ms_if (mt_not (mt_chain om_le om_le (me_int).toB ((me_var 1)).toB ((me_glo (A.int 1))).toB)) (mss_one (ms_raise rfl (A.exc 2 3))) mss_nil) (mss_cons (ms_if ((mw_or (mt_not (mt_val (me_call (at_is_interval A) (hr.mono (by decide)) (ml_cons (me_var 2) ml_nil) (len_cons len_nil)))) (mw_or (mt_cmp om_lt ((me_ix ((me_var 2)).toB (me_int).toB)).toB (me_int).toB) (mw_or1 (mt_cmp om_gt ((me_ix ((me_var 2)).toB (me_int).toB)).toB ((me_glo (A.int 4))).toB))))).toT (mss_one (ms_raise rfl (A.exc 2 3))) mss_nil) (mss_cons (ms_if ((mw_or (mt_not (mt_val (me_call (at_is_interval A) (hr.mono (by decide)) (ml_cons (me_var 3) ml_nil) (len_cons len_nil)))) (mw_or (mt_cmp om_lt ((me_ix ((me_var 3)).toB (me_int).toB)).toB (me_int).toB) (mw_or1 (mt_cmp om_gt ((me_ix ((me_var 3)).toB (me_int).toB)).toB ((me_glo (A.int 5))).toB))))).toT (mss_one (ms_raise rfl (A.exc 2 3))) mss_nil) (mss_cons (ms_if ((mw_or (mt_not (mt_chain om_le om_le (me_int).toB ((me_var 4)).toB ((me_glo (A.int 6))).toB)) (mw_or1 (mt_not (mt_chain om_le om_le (me_int).toB ((me_var 5)).toB ((me_glo (A.int 6))).toB))))).toT (mss_one (ms_raise rfl (A.exc 2 3))) mss_nil) (mss_cons (ms_selfSet 0 21 (A.cls 7) (A.noat 8) (me_var 1)) (mss_cons (ms_selfSet 0 21 (A.cls 7) (A.noat 9) (me_var 2)) (mss_cons (ms_selfSet 0 21 (A.cls 7) (A.noat 10) (me_var 3)) (mss_cons (ms_selfSet 0 21 (A.cls 7) (A.noat 11) (me_var 4)) (mss_one (ms_selfSet 0 21 (A.cls 7) (A.noat 12) (me_var 5)))))))))))
  exact ⟨(He.fAd K ("Train", some "__init__")), fd, ["self", "length", "friction", "brake", "lift", "drive"], z, hg, hk, hb⟩
theorem sc_law_cell : FnScope ["script", "k"] ["script", "k"] (defScope s_law_cell) := ⟨rfl, rfl, rfl, by decide +kernel, rfl, by decide +kernel, by decide +kernel⟩
theorem at_law_cell (A : Wt fa fn xs K mg) : FnAt P w K mg base (ct K) 1 "_law_cell" 2 m_law_cell := by
  obtain ⟨fd, F⟩ := A.def_ 2 (d := d_law_cell) rfl
  have F : FunD K "_law_cell" "_law_cell" (defArgs s_law_cell) (defBody s_law_cell) (defScope s_law_cell) [] [] (He.fAd K ("_law_cell", none)) fd := F
  have hb : Binds K fd ["script", "k"] [] := binds_n F fun _ _ _ _ _ _ us hl => match us, hl with | [_, _], _ => rfl
  have hg : mg "_law_cell" = some (.ref (He.ga K "_law_cell")) := A.glo 26
  have hg : mg "_law_cell" = some (.ref (He.fAd K ("_law_cell", none))) := hg
  have hk := F.kp
  have z : FnOk P w K mg base (L2.CX P w) (0 + 1) (He.fAd K ("_law_cell", none)) fd ["script", "k"] (spD K (ct K) 2 (runD 2 b_law_cell)) := by
    refine fn_ok (k := 0) (N := ["script", "k"]) (n := 2) (m := b_law_cell) F sc_law_cell rfl fun cdv A0 outer s H E Fb hr => ?_
    exact (mss_cons (ms_if (mt_cmp om_lt ((me_var 1)).toB ((me_bi cm_len (A.free 0) (by decide +kernel) (mlb_cons ((me_var 0)).toB mlb_nil))).toB) (mss_one (ms_ret (me_bi cm_abs (A.free 13) (by decide +kernel) (mlb_cons ((me_bty cm_int (A.free 14) (by decide +kernel) (mlb_cons ((me_ix ((me_var 0)).toB ((me_var 1)).toB)).toB mlb_nil))).toB mlb_nil)))) mss_nil) (mss_one (ms_ret me_int)))
  exact ⟨(He.fAd K ("_law_cell", none)), fd, ["script", "k"], z, hg, hk, hb⟩
theorem sc_law_draws : FnScope ["cell", "count", "rows", "left", "k", "mixed"] ["cell", "count"] (defScope s_law_draws) := ⟨rfl, rfl, rfl, by decide +kernel, rfl, by decide +kernel, by decide +kernel⟩
theorem at_law_draws (A : Wt fa fn xs K mg) : FnAt P w K mg base (ct K) 1 "_law_draws" 2 m_law_draws := by
  obtain ⟨fd, F⟩ := A.def_ 3 (d := d_law_draws) rfl
  have F : FunD K "_law_draws" "_law_draws" (defArgs s_law_draws) (defBody s_law_draws) (defScope s_law_draws) [] [] (He.fAd K ("_law_draws", none)) fd := F
  have hb : Binds K fd ["cell", "count"] [] := binds_n F fun _ _ _ _ _ _ us hl => match us, hl with | [_, _], _ => rfl
  have hg : mg "_law_draws" = some (.ref (He.ga K "_law_draws")) := A.glo 27
  have hg : mg "_law_draws" = some (.ref (He.fAd K ("_law_draws", none))) := hg
  have hk := F.kp
  have z : FnOk P w K mg base (L2.CX P w) (0 + 1) (He.fAd K ("_law_draws", none)) fd ["cell", "count"] (spD K (ct K) 2 (runD 6 b_law_draws)) := by
    refine fn_ok (k := 0) (N := ["cell", "count", "rows", "left", "k", "mixed"]) (n := 2) (m := b_law_draws) F sc_law_draws rfl fun cdv A0 outer s H E Fb hr => ?_
    exact (mss_cons (ms_setO 2 sc_law_draws.nd (mf_lst ml_nil)) (mss_cons (ms_set 3 sc_law_draws.nd (me_var 0)) (mss_cons (ms_for (vs := [4]) (passes_of rfl) rfl (mi_range1 (A.free 15) (ml_cons (me_var 1) ml_nil)) (mg_name 4 sc_law_draws.nd) (mss_one (ms_if ((mw_and (mt_cmp om_ge ((me_var 0)).toB ((me_bin om_pow (me_int).toB (me_int).toB)).toB) (mw_and1 (mt_cmp om_gt ((me_var 3)).toB (me_int).toB)))).toT (mss_cons (ms_lw 2 lw_append (ml_cons (me_bin om_mod ((me_bty cm_int (A.free 14) (by decide +kernel) (mlb_cons ((me_var 3)).toB mlb_nil))).toB (me_int).toB) ml_nil) (hpe := fun h h0 h1 => pe_bm PySem.F.plainAttrs_list PySem.F.slot_list_append PySem.F.type_list_append h h0 h1)) (mss_one (ms_set 3 sc_law_draws.nd (me_bin om_fdiv ((me_var 3)).toB (me_int).toB)))) (mss_cons (ms_set 5 sc_law_draws.nd (me_bin om_mod ((me_bty cm_int (A.free 14) (by decide +kernel) (mlb_cons ((me_bin om_add ((me_bin om_mul ((me_var 0)).toB (me_int).toB)).toB ((me_bin om_mul ((me_bin om_add ((me_var 4)).toB (me_int).toB)).toB (me_int).toB)).toB)).toB mlb_nil))).toB (me_int).toB)) (mss_cons (ms_set 5 sc_law_draws.nd (me_bin om_mod ((me_bty cm_int (A.free 14) (by decide +kernel) (mlb_cons ((me_bin om_add ((me_bin om_add ((me_bin om_mul ((me_var 5)).toB ((me_var 5)).toB)).toB ((me_bin om_mul ((me_var 5)).toB (me_int).toB)).toB)).toB ((me_bin om_mul ((me_var 4)).toB (me_int).toB)).toB)).toB mlb_nil))).toB (me_int).toB)) (mss_cons (ms_set 5 sc_law_draws.nd (me_bin om_mod ((me_bty cm_int (A.free 14) (by decide +kernel) (mlb_cons ((me_bin om_add ((me_bin om_add ((me_bin om_mul ((me_var 5)).toB ((me_var 5)).toB)).toB ((me_var 0)).toB)).toB ((me_bin om_mul (me_int).toB ((me_var 4)).toB)).toB)).toB mlb_nil))).toB (me_int).toB)) (mss_one (ms_lw 2 lw_append (ml_cons (me_bin om_mod ((me_bin om_fdiv ((me_var 5)).toB (me_int).toB)).toB (me_int).toB) ml_nil) (hpe := fun h h0 h1 => pe_bm PySem.F.plainAttrs_list PySem.F.slot_list_append PySem.F.type_list_append h h0 h1))))))))) (mss_frz 2 (mss_one (ms_ret (me_var 2)))))))
  exact ⟨(He.fAd K ("_law_draws", none)), fd, ["cell", "count"], z, hg, hk, hb⟩
theorem sc_law_like : FnScope ["actual", "due", "k"] ["actual", "due"] (defScope s_law_like) := ⟨rfl, rfl, rfl, by decide +kernel, rfl, by decide +kernel, by decide +kernel⟩
theorem at_law_like (A : Wt fa fn xs K mg) : ∀ n : Nat, FnAt P w K mg base (ct K) (n + 1) "_law_like" 2 (m_law_like n)
  | 0 => by
    obtain ⟨fd, F⟩ := A.def_ 4 (d := d_law_like) rfl
    have F : FunD K "_law_like" "_law_like" (defArgs s_law_like) (defBody s_law_like) (defScope s_law_like) [] [] (He.fAd K ("_law_like", none)) fd := F
    have hb : Binds K fd ["actual", "due"] [] := binds_n F fun _ _ _ _ _ _ us hl => match us, hl with | [_, _], _ => rfl
    have hg : mg "_law_like" = some (.ref (He.ga K "_law_like")) := A.glo 28
    have hg : mg "_law_like" = some (.ref (He.fAd K ("_law_like", none))) := hg
    have hk := F.kp
    exact ⟨(He.fAd K ("_law_like", none)), fd, ["actual", "due"], fn_bad F, hg, hk, hb⟩
  | n + 1 => by
    have IH := at_law_like A n
    obtain ⟨fd, F⟩ := A.def_ 4 (d := d_law_like) rfl
    have F : FunD K "_law_like" "_law_like" (defArgs s_law_like) (defBody s_law_like) (defScope s_law_like) [] [] (He.fAd K ("_law_like", none)) fd := F
    have hb : Binds K fd ["actual", "due"] [] := binds_n F fun _ _ _ _ _ _ us hl => match us, hl with | [_, _], _ => rfl
    have hg : mg "_law_like" = some (.ref (He.ga K "_law_like")) := A.glo 28
    have hg : mg "_law_like" = some (.ref (He.fAd K ("_law_like", none))) := hg
    have hk := F.kp
    have z : FnOk P w K mg base (L2.CX P w) (n + 1 + 1) (He.fAd K ("_law_like", none)) fd ["actual", "due"] (spD K (ct K) 2 (runD 3 (b_law_like (m_law_like n)))) := by
      refine fn_ok (k := n + 1) (N := ["actual", "due", "k"]) (n := 2) (m := b_law_like (m_law_like n)) F sc_law_like rfl fun cdv A0 outer s H E Fb hr => ?_
      exact (mss_cons (ms_if (mt_cmp om_is ((me_var 1)).toB (me_non).toB) (mss_one (ms_ret (me_cmp om_is ((me_var 0)).toB (me_non).toB))) mss_nil) (mss_cons (ms_if (mt_val (me_isi .bool (A.free 16) (A.free 17) (by decide +kernel) ((me_var 1)).toB)) (mss_one (ms_ret (me_and (me_isi .bool (A.free 16) (A.free 17) (by decide +kernel) ((me_var 0)).toB) (me_one (me_cmp (om_eq (hr).units) ((me_var 0)).toB ((me_var 1)).toB))))) mss_nil) (mss_cons (ms_if (mt_val (me_isi .str (A.free 16) (A.free 18) (by decide +kernel) ((me_var 1)).toB)) (mss_one (ms_ret (me_and (me_isi .str (A.free 16) (A.free 18) (by decide +kernel) ((me_var 0)).toB) (me_one (me_cmp (om_eq (hr).units) ((me_var 0)).toB ((me_var 1)).toB))))) mss_nil) (mss_cons (ms_if (mt_val (me_isi .int (A.free 16) (A.free 14) (by decide +kernel) ((me_var 1)).toB)) (mss_one (ms_ret (me_and (me_isi .int (A.free 16) (A.free 14) (by decide +kernel) ((me_var 0)).toB) (me_and (me_not (me_isi .bool (A.free 16) (A.free 17) (by decide +kernel) ((me_var 0)).toB)) (me_one (me_cmp (om_eq (hr).units) ((me_var 0)).toB ((me_var 1)).toB)))))) mss_nil) (mss_cons (ms_if ((mw_or (mt_cmp (om_ne (hr).units) ((me_isi .list (A.free 16) (A.free 19) (by decide +kernel) ((me_var 1)).toB)).toB ((me_isi .list (A.free 16) (A.free 19) (by decide +kernel) ((me_var 0)).toB)).toB) (mw_or1 (mt_cmp (om_ne (hr).units) ((me_isi .tuple (A.free 16) (A.free 20) (by decide +kernel) ((me_var 1)).toB)).toB ((me_isi .tuple (A.free 16) (A.free 20) (by decide +kernel) ((me_var 0)).toB)).toB)))).toT (mss_one (ms_ret me_bl)) mss_nil) (mss_cons (ms_if (mt_cmp (om_ne (hr).units) ((me_bi cm_len (A.free 0) (by decide +kernel) (mlb_cons ((me_var 0)).toB mlb_nil))).toB ((me_bi cm_len (A.free 0) (by decide +kernel) (mlb_cons ((me_var 1)).toB mlb_nil))).toB) (mss_one (ms_ret me_bl)) mss_nil) (mss_one (ms_ret (me_bi (cm_all rfl) (A.free 21) (by decide +kernel) (mlb_cons ((mf_comp (own := [("k", 2)]) rfl sc_law_like.nd ((mi_range1 (A.free 15) (ml_cons (me_bi cm_len (A.free 0) (by decide +kernel) (mlb_cons ((me_var 1)).toB mlb_nil)) ml_nil))).b (blkOk_by (by kernel_rfl)) (fun _ _ _ _ _ _ => (mg_name 2 sc_law_like.nd)) (fun _ _ _ _ _ _ => mts_nil) (fun _ _ _ _ _ _ => (me_call (IH) (hr.mono (by omega)) (ml_cons (me_ix ((me_var 0)).toB ((me_var 2)).toB) (ml_cons (me_ix ((me_var 1)).toB ((me_var 2)).toB) ml_nil)) (len_cons (len_cons len_nil)))))).toE.toB mlb_nil))))))))))
    have e : n + 1 + 1 = n + 1 + 1 := by omega
    rw [e]
    exact ⟨(He.fAd K ("_law_like", none)), fd, ["actual", "due"], z, hg, hk, hb⟩
theorem sc_law_drawn_train : FnScope ["draws", "rough", "strong"] ["draws"] (defScope s_law_drawn_train) := ⟨rfl, rfl, rfl, by decide +kernel, rfl, by decide +kernel, by decide +kernel⟩
theorem at_law_drawn_train (A : Wt fa fn xs K mg) : FnAt P w K mg base (ct K) 1 "_law_drawn_train" 1 m_law_drawn_train := by
  obtain ⟨fd, F⟩ := A.def_ 5 (d := d_law_drawn_train) rfl
  have F : FunD K "_law_drawn_train" "_law_drawn_train" (defArgs s_law_drawn_train) (defBody s_law_drawn_train) (defScope s_law_drawn_train) [] [] (He.fAd K ("_law_drawn_train", none)) fd := F
  have hb : Binds K fd ["draws"] [] := binds_n F fun _ _ _ _ _ _ us hl => match us, hl with | [_], _ => rfl
  have hg : mg "_law_drawn_train" = some (.ref (He.ga K "_law_drawn_train")) := A.glo 29
  have hg : mg "_law_drawn_train" = some (.ref (He.fAd K ("_law_drawn_train", none))) := hg
  have hk := F.kp
  have z : FnOk P w K mg base (L2.CX P w) (0 + 1) (He.fAd K ("_law_drawn_train", none)) fd ["draws"] (spD K (ct K) 1 (runD 3 b_law_drawn_train)) := by
    refine fn_ok (k := 0) (N := ["draws", "rough", "strong"]) (n := 1) (m := b_law_drawn_train) F sc_law_drawn_train rfl fun cdv A0 outer s H E Fb hr => ?_
    exact (mss_cons (ms_set 1 sc_law_drawn_train.nd (me_bin om_mod ((me_ix ((me_var 0)).toB (me_int).toB)).toB (me_int).toB)) (mss_cons (ms_set 2 sc_law_drawn_train.nd (me_bin om_add (me_int).toB ((me_bin om_mul (me_int).toB ((me_ix ((me_var 0)).toB (me_int).toB)).toB)).toB)) (mss_one (ms_ret ((mf_lst (ml_cons (me_bin om_add (me_int).toB ((me_bin om_mod ((me_ix ((me_var 0)).toB (me_int).toB)).toB (me_int).toB)).toB) (ml_cons (me_tup (ml_cons (me_var 1) (ml_cons (me_bin om_add ((me_var 1)).toB ((me_bin om_mod ((me_ix ((me_var 0)).toB (me_int).toB)).toB (me_int).toB)).toB) ml_nil))) (ml_cons (me_tup (ml_cons (me_var 2) (ml_cons (me_bin om_add ((me_var 2)).toB ((me_bin om_mul (me_int).toB ((me_ix ((me_var 0)).toB (me_int).toB)).toB)).toB) ml_nil))) (ml_cons (me_bin om_add (me_int).toB ((me_bin om_mul (me_int).toB ((me_ix ((me_var 0)).toB (me_int).toB)).toB)).toB) (ml_cons (me_bin om_add (me_int).toB ((me_bin om_mul (me_int).toB ((me_ix ((me_var 0)).toB (me_int).toB)).toB)).toB) ml_nil))))))).toE))))
  exact ⟨(He.fAd K ("_law_drawn_train", none)), fd, ["draws"], z, hg, hk, hb⟩
theorem sc_law_made : FnScope ["data"] ["data"] (defScope s_law_made) := ⟨rfl, rfl, rfl, by decide +kernel, rfl, by decide +kernel, by decide +kernel⟩
theorem at_law_made (A : Wt fa fn xs K mg) : FnAt P w K mg base (ct K) 4 "_law_made" 1 m_law_made := by
  obtain ⟨fd, F⟩ := A.def_ 6 (d := d_law_made) rfl
  have F : FunD K "_law_made" "_law_made" (defArgs s_law_made) (defBody s_law_made) (defScope s_law_made) [] [] (He.fAd K ("_law_made", none)) fd := F
  have hb : Binds K fd ["data"] [] := binds_n F fun _ _ _ _ _ _ us hl => match us, hl with | [_], _ => rfl
  have hg : mg "_law_made" = some (.ref (He.ga K "_law_made")) := A.glo 30
  have hg : mg "_law_made" = some (.ref (He.fAd K ("_law_made", none))) := hg
  have hk := F.kp
  have z : FnOk P w K mg base (L2.CX P w) (3 + 1) (He.fAd K ("_law_made", none)) fd ["data"] (spD K (ct K) 1 (runD 1 b_law_made)) := by
    refine fn_ok (k := 3) (N := ["data"]) (n := 1) (m := b_law_made) F sc_law_made rfl fun cdv A0 outer s H E Fb hr => ?_
    exact (mss_cons (ms_try (cs := [3]) (c := 3) rfl rfl (A.glo 3) (fun c hc => by
      simp only [List.mem_cons, List.not_mem_nil, or_false] at hc
      subst hc
      exact A.exm 22) (fun pn xe po => (mss_one (ms_expr (me_make (at_train_init A) (hr.mono (by decide)) (ml_cons (me_ix ((me_var 0)).toB (me_int).toB) (ml_cons (me_ix ((me_var 0)).toB (me_int).toB) (ml_cons (me_ix ((me_var 0)).toB (me_int).toB) (ml_cons (me_ix ((me_var 0)).toB (me_int).toB) (ml_cons (me_ix ((me_var 0)).toB (me_int).toB) ml_nil))))) (len_cons (len_cons (len_cons (len_cons (len_cons len_nil))))))))) (fun a pn => (mss_one (ms_ret me_bl)))) (mss_one (ms_ret me_bl)))
  exact ⟨(He.fAd K ("_law_made", none)), fd, ["data"], z, hg, hk, hb⟩
theorem sc_law : FnScope ["script", "draws", "data", "train", "great", "low", "edges", "wrong", "place", "bad", "edge"] ["script"] (defScope s_law) := ⟨rfl, rfl, rfl, by decide +kernel, rfl, by decide +kernel, by decide +kernel⟩
theorem ok_law (A : Wt fa fn xs K mg) {fd : FuncData} (F : FunD K "law" "law" (defArgs s_law) (defBody s_law) (defScope s_law) [] [] (He.fAd K ("law", none)) fd) : FnOk P w K mg base (L2.CX P w) 10 (He.fAd K ("law", none)) fd ["script"] (spD K (ct K) 1 (runD 11 b_law)) := by
  refine fn_ok (k := 9) (N := ["script", "draws", "data", "train", "great", "low", "edges", "wrong", "place", "bad", "edge"]) (n := 1) (m := b_law) F sc_law rfl fun cdv A0 outer s H E Fb hr => ?_
  exact (mss_cons (ms_set 1 sc_law.nd (me_call (at_law_draws A) (hr.mono (by decide)) (ml_cons (me_call (at_law_cell A) (hr.mono (by decide)) (ml_cons (me_var 0) (ml_cons me_int ml_nil)) (len_cons (len_cons len_nil))) (ml_cons me_int ml_nil)) (len_cons (len_cons len_nil)))) (mss_cons (ms_set 2 sc_law.nd (me_call (at_law_drawn_train A) (hr.mono (by decide)) (ml_cons (me_var 1) ml_nil) (len_cons len_nil))) (mss_cons (ms_set 3 sc_law.nd (me_make (at_train_init A) (hr.mono (by decide)) (ml_cons (me_ix ((me_var 2)).toB (me_int).toB) (ml_cons (me_ix ((me_var 2)).toB (me_int).toB) (ml_cons (me_ix ((me_var 2)).toB (me_int).toB) (ml_cons (me_ix ((me_var 2)).toB (me_int).toB) (ml_cons (me_ix ((me_var 2)).toB (me_int).toB) ml_nil))))) (len_cons (len_cons (len_cons (len_cons (len_cons len_nil))))))) (mss_cons (ms_if (mt_not (mt_val (me_call (at_law_like A 8) (hr.mono (by decide)) (ml_cons ((mf_lst (ml_cons (me_fld 21 0 (A.cls 7) (A.noat 8) (me_var 3)) (ml_cons (me_fld 21 1 (A.cls 7) (A.noat 9) (me_var 3)) (ml_cons (me_fld 21 2 (A.cls 7) (A.noat 10) (me_var 3)) (ml_cons (me_fld 21 3 (A.cls 7) (A.noat 11) (me_var 3)) (ml_cons (me_fld 21 4 (A.cls 7) (A.noat 12) (me_var 3)) ml_nil))))))).toE (ml_cons (me_var 2) ml_nil)) (len_cons (len_cons len_nil))))) (mss_one (ms_ret me_bl)) mss_nil) (mss_cons (ms_set 4 sc_law.nd (me_bin om_mod ((me_bty cm_int (A.free 14) (by decide +kernel) (mlb_cons ((me_call (at_law_cell A) (hr.mono (by decide)) (ml_cons (me_var 0) (ml_cons me_int ml_nil)) (len_cons (len_cons len_nil)))).toB mlb_nil))).toB ((me_bin om_pow (me_int).toB (me_int).toB)).toB)) (mss_cons (ms_set 5 sc_law.nd (me_bin om_mod ((me_ix ((me_var 1)).toB (me_int).toB)).toB (me_int).toB)) (mss_cons (ms_set 6 sc_law.nd ((mf_lst (ml_cons ((mf_lst (ml_cons me_int (ml_cons (me_tup (ml_cons me_int (ml_cons me_int ml_nil))) (ml_cons (me_tup (ml_cons me_int (ml_cons me_int ml_nil))) (ml_cons me_int (ml_cons me_int ml_nil))))))).toE (ml_cons ((mf_lst (ml_cons me_int (ml_cons (me_tup (ml_cons me_int (ml_cons me_int ml_nil))) (ml_cons (me_tup (ml_cons me_int (ml_cons me_int ml_nil))) (ml_cons me_int (ml_cons me_int ml_nil))))))).toE (ml_cons ((mf_lst (ml_cons me_int (ml_cons (me_tup (ml_cons (me_var 5) (ml_cons me_int ml_nil))) (ml_cons (me_tup (ml_cons (me_bin om_add (me_int).toB ((me_var 5)).toB) (ml_cons me_int ml_nil))) (ml_cons me_int (ml_cons me_int ml_nil))))))).toE ml_nil))))).toE) (mss_cons (ms_if (mt_not (mt_val (me_bi (cm_all rfl) (A.free 21) (by decide +kernel) (mlb_cons ((mf_comp (own := [("edge", 10)]) rfl sc_law.nd (mi_seq (me_var 6)).b (blkOk_by (by kernel_rfl)) (fun _ _ _ _ _ _ => (mg_name 10 sc_law.nd)) (fun _ _ _ _ _ _ => mts_nil) (fun _ _ _ _ _ _ => (me_call (at_law_made A) (hr.mono (by decide)) (ml_cons (me_var 10) ml_nil) (len_cons len_nil))))).toE.toB mlb_nil)))) (mss_one (ms_ret me_bl)) mss_nil) (mss_cons (ms_set 7 sc_law.nd ((mf_lst (ml_cons (me_tup (ml_cons me_int (ml_cons (me_bin om_sub (me_int).toB ((me_var 4)).toB) ml_nil))) (ml_cons (me_tup (ml_cons me_int (ml_cons (me_bin om_add (me_int).toB ((me_var 4)).toB) ml_nil))) (ml_cons (me_tup (ml_cons me_int (ml_cons (me_tup (ml_cons (me_bin om_add ((me_var 5)).toB (me_int).toB) (ml_cons (me_var 5) ml_nil))) ml_nil))) (ml_cons (me_tup (ml_cons me_int (ml_cons (me_tup (ml_cons (me_bin om_sub ((me_neg (me_int).toB)).toB ((me_var 5)).toB) (ml_cons me_int ml_nil))) ml_nil))) (ml_cons (me_tup (ml_cons me_int (ml_cons (me_tup (ml_cons (me_var 5) (ml_cons (me_bin om_add (me_int).toB ((me_var 4)).toB) ml_nil))) ml_nil))) (ml_cons (me_tup (ml_cons me_int (ml_cons (me_tup (ml_cons me_int (ml_cons me_int ml_nil))) ml_nil))) (ml_cons (me_tup (ml_cons me_int (ml_cons (me_tup (ml_cons (me_bin om_add ((me_var 5)).toB (me_int).toB) (ml_cons (me_bin om_add ((me_var 5)).toB (me_int).toB) ml_nil))) ml_nil))) ml_nil))))))))).toE) (mss_cons (ms_set 7 sc_law.nd (me_bin om_add ((me_var 7)).toB ((mf_lst (ml_cons (me_tup (ml_cons me_int (ml_cons (me_tup (ml_cons me_int (ml_cons (me_bin om_add (me_int).toB ((me_var 4)).toB) ml_nil))) ml_nil))) (ml_cons (me_tup (ml_cons me_int (ml_cons (me_bin om_sub (me_int).toB ((me_var 4)).toB) ml_nil))) (ml_cons (me_tup (ml_cons me_int (ml_cons (me_bin om_add (me_int).toB ((me_var 4)).toB) ml_nil))) (ml_cons (me_tup (ml_cons me_int (ml_cons (me_bin om_sub (me_int).toB ((me_var 4)).toB) ml_nil))) (ml_cons (me_tup (ml_cons me_int (ml_cons (me_bin om_add (me_int).toB ((me_var 4)).toB) ml_nil))) ml_nil))))))).toE.toB)) (mss_cons (ms_for (vs := [8, 9]) (passes_of rfl) rfl (mi_seq (me_var 7)) (mg_seq rfl (mgs_cons (mg_name 8 sc_law.nd) (mgs_cons (mg_name 9 sc_law.nd) mgs_nil)) (glen_cons (glen_cons glen_nil))) (mss_one (ms_if (mt_val (me_call (at_law_made A) (hr.mono (by decide)) (ml_cons (me_bin om_add ((me_bin om_add ((me_slice ((me_var 2)).toB mo_none (mo_some ((me_var 8)).toB))).toB ((mf_lst (ml_cons (me_var 9) ml_nil))).toE.toB)).toB ((me_slice ((me_var 2)).toB (mo_some ((me_bin om_add ((me_var 8)).toB (me_int).toB)).toB) mo_none)).toB) ml_nil) (len_cons len_nil))) (mss_one (ms_ret me_bl)) mss_nil))) (mss_one (ms_ret me_bl)))))))))))))
theorem facts {f : Addr} (A : Wt fa fn xs K mg) (hfa : mg "law" = some (.ref f)) : ∃ fd : FuncData, (∀ (s : Shared) (v : Value), BindsTo s fd ⟨[v], []⟩ [("script", v)]) ∧ ∀ base : Heap, FnOk P w K mg base CXN 10 f fd ["script"] (noE (spD K (ct K) 1 m_law)) := by
  obtain ⟨fd, F⟩ := A.def_ 7 (d := d_law) rfl
  have F : FunD K "law" "law" (defArgs s_law) (defBody s_law) (defScope s_law) [] [] (He.fAd K ("law", none)) fd := F
  have hg : mg "law" = some (.ref (He.ga K "law")) := A.glo 31
  have hg : mg "law" = some (.ref (He.fAd K ("law", none))) := hg
  have e : f = (He.fAd K ("law", none)) := by
    have e := hfa.symm.trans hg
    injection e with e
    injection e with e
  subst e
  have b := FunD.bindsA (ps := ["script"]) F fun _ _ _ _ _ _ us hl => match us, hl with | [_], _ => rfl
  exact ⟨fd, fun s v => b s [v] rfl, fun base => fn_no (ok_law A F)⟩
end
abbrev R : PySem.W.OpenRow := PySem.W.OpenLaw.row PySem.Challenge.rw_coastersafe_k05_trains
abbrev hk : PySem.W.Hook := hookX 5 fa fn xs
def ob (s : PySem.W.SharedT) : He.AlD := obsXG 5 fa fn xs (HandSHeadRun.getT s)
theorem ob_eq (s : PySem.W.SharedT) : ob s = hk.obs s.abs := obsXG_eq (HandSHeadRun.getT_eq s)
def loose : List PySem.Str := (["CoasterError", "InvalidTrain", "is_interval", "MOST_LENGTH", "MOST_FRICTION", "MOST_BRAKE", "MOST_ENERGY", "Train", "_law_cell", "_law_draws", "_law_like", "_law_drawn_train", "_law_made"] : List PySem.Str)
theorem run (w : World) : HandSHeadRun.RunEq R (PySem.W.view R.prog [17]) hk ob 20000 loose w := by
  intro os
  kernel_rfl
end Cr
open PySem PySem.W PySem.Calls PyProof.Rows
theorem Cr.finish (hlaw : ∀ ns : List Int, ns.length ≤ 63 → Cr.m_law [.scr ns] = .ok (.bl true)) : PySem.Challenge.rw_coastersafe_k05_trains.Holds := by
  w_on; o_law
  refine HandSHeadRun.head_any (r := OpenLaw.row PySem.Challenge.rw_coastersafe_k05_trains) (q := view (OpenLaw.row PySem.Challenge.rw_coastersafe_k05_trains).prog [17]) (H := Cr.hk) (ob := Cr.ob) (M := 20000) (loose := Cr.loose) (d := HandSHeadRun.topDef (OpenLaw.row PySem.Challenge.rw_coastersafe_k05_trains).prog 17) (kwd := []) Cr.ob_eq
    (by kernel_rfl) (fun s => by kernel_rfl) Cr.run (by kernel_rfl) (by kernel_rfl) (by kernel_rfl) (by rfl) (by first | assumption | decide +kernel) (by decide +kernel) ⟨rfl, rfl, rfl, rfl, rfl, by decide +kernel⟩ ?hw ?hc
  case hw => w_witness2
  case hc =>
    refine L2.walk_ofE (l := PySem.Challenge.rw_coastersafe_k05_trains) (n := 63) (k := 10) (x := "script") (CX := Cr.CXN) rfl (by decide) (by kernel_rfl) ⟨rfl, by decide, by decide⟩ ?F (fun _ _ _ _ z => z)
    intro w mg fa h Y G hmg0
    obtain ⟨K, KX, c⟩ := Y
    have hmg : mg ("law" : PySem.Str) = some (.ref fa) := by
      have e : (HandSHeadRun.topDef (OpenLaw.row PySem.Challenge.rw_coastersafe_k05_trains).prog 17).name = ("law" : PySem.Str) := by kernel_rfl
      rw [← e]
      exact hmg0
    have A : Cr.Wt Cr.fa Cr.fn Cr.xs K mg := ⟨⟨h, KX, G⟩, c⟩
    obtain ⟨fd, hb, hF⟩ := Cr.facts (P := (PySem.Challenge.rw_coastersafe_k05_trains).prog) (w := w) A hmg
    exact ⟨K, fd, Cr.noE (Cr.spD K (Cr.ct K) 1 Cr.m_law), KX, hb, fun H a ns hl _ hS => Cr.law_sp hlaw H a ns hl hS, fun base _ _ => hF base⟩
/-! plain lemmas over the mirrors' words -/
namespace Cr
open PySem L2
theorem mulD_r (a b : Int) (h : -18446744073709551616 < b ∧ b < 18446744073709551616) : mulD (.int a) (.int b) = .ok (.int (a * b)) := by
  have : mulOk a b := .inl (.inr ⟨by have := h.1; omega, by have := h.2; omega⟩)
  unfold mulD
  exact if_pos this
theorem mulD_l (a b : Int) (h : -18446744073709551616 < a ∧ a < 18446744073709551616) : mulD (.int a) (.int b) = .ok (.int (a * b)) := by
  have : mulOk a b := .inl (.inl ⟨by have := h.1; omega, by have := h.2; omega⟩)
  unfold mulD
  exact if_pos this
theorem modD_p (a b : Int) (h : 0 < b) : modD (.int a) (.int b) = .ok (.int (a % b)) := if_pos h
theorem fdivD_p (a b : Int) (h : 0 < b ∧ b < 18446744073709551616) : fdivD (.int a) (.int b) = .ok (.int (a / b)) := by
  have e : divOk a b := by
    refine ⟨h.1, ?_⟩
    have : b.natAbs < 2 ^ 64 := by omega
    have h0 : b.natAbs ≠ 0 := by omega
    have := (Nat.log2_lt h0).mpr this
    omega
  exact if_pos e
theorem powD_p (a b : Int) (h : 0 ≤ b ∧ b ≤ 1000000) (h2 : a.natAbs < 18446744073709551616) : powD (.int a) (.int b) = .ok (.int (a ^ b.toNat)) := by
  have e : powOk a b := ⟨h.1, h.2, by omega⟩
  exact if_pos e
theorem addD_i (a b : Int) : addD (.int a) (.int b) = .ok (.int (a + b)) := rfl
theorem subD_i (a b : Int) : subD (.int a) (.int b) = .ok (.int (a - b)) := rfl
theorem tru_bl (b : Bool) : tru (.bl b) = .ok b := rfl
theorem mTst_bl {m : Env → Res D} {ρ : Env} {b : Bool} (h : m ρ = .ok (.bl b)) : mTst m ρ = .ok b := by unfold mTst; rw [h]; rfl
/-! statements -/
theorem seq_nx {m m' : Env → Flow} {ρ ρ' : Env} (h : m ρ = .nx ρ') : mSeq m m' ρ = m' ρ' := by unfold mSeq; rw [h]
theorem seq_rt {m m' : Env → Flow} {ρ ρ' : Env} {d : D} (h : m ρ = .rt d ρ') : mSeq m m' ρ = .rt d ρ' := by unfold mSeq; rw [h]
theorem seq_er {m m' : Env → Flow} {ρ ρ' : Env} {x : Exc} (h : m ρ = .er x ρ') : mSeq m m' ρ = .er x ρ' := by unfold mSeq; rw [h]
theorem set_ok {m : Env → Res D} {ρ : Env} {d : D} {i : Nat} (h : m ρ = .ok d) (k : okS ρ i = true) : mSet i m ρ = .nx (ρ.set i (.v (.d d))) := by unfold mSet; rw [h]; unfold put; exact if_pos k
theorem setO_ok {m : Env → Res (List D)} {ρ : Env} {d : List D} {i : Nat} (h : m ρ = .ok d) (k : okS ρ i = true) : mSetO i m ρ = .nx (ρ.set i (.v (.ol d))) := by unfold mSetO; rw [h]; unfold put; exact if_pos k
theorem ret_ok {m : Env → Res D} {ρ : Env} {d : D} (h : m ρ = .ok d) : mRet m ρ = .rt d ρ := by unfold mRet; rw [h]; rfl
theorem if_t {t : Env → Res Bool} {m m' : Env → Flow} {ρ : Env} (h : t ρ = .ok true) : mIfS t m m' ρ = m ρ := by unfold mIfS; rw [h]; rfl
theorem if_f {t : Env → Res Bool} {m m' : Env → Flow} {ρ : Env} (h : t ρ = .ok false) : mIfS t m m' ρ = m' ρ := by unfold mIfS; rw [h]; rfl
theorem seq_if_f {t : Env → Res Bool} {m m' : Env → Flow} {ρ : Env} (h : t ρ = .ok false) : mSeq (mIfS t m mEnd) m' ρ = m' ρ := seq_nx (if_f h)
theorem seq_if_t {t : Env → Res Bool} {m m1 m' : Env → Flow} {ρ : Env} (h : t ρ = .ok true) : mSeq (mIfS t m m1) m' ρ = mSeq m m' ρ := by unfold mSeq; rw [if_t h]
theorem runD_rt {l : Nat} {m : Env → Flow} {ds : List D} {d : D} {ρ : Env} (h : m (startE l ds) = .rt d ρ) : runD l m ds = .ok d := by unfold runD; rw [h]
theorem for_ok {mi : Env → Res (List D)} {g : D → Env → Option Env} {mb : Env → Flow} {ρ : Env} {xs : List D} (h : mi ρ = .ok xs) : mFor mi g mb ρ = forL g mb xs ρ := by unfold mFor; rw [h]; rfl
theorem forL_cons {g : D → Env → Option Env} {mb : Env → Flow} {ρ ρ1 ρ2 : Env} {x : D} {xs : List D} (h : g x ρ = some ρ1) (h2 : mb ρ1 = .nx ρ2) : forL g mb (x :: xs) ρ = forL g mb xs ρ2 := by
  show (match g x ρ with
    | none => Flow.bad
    | some ρ1 => match mb ρ1 with
      | .nx ρ2 => forL g mb xs ρ2
      | f => f) = _
  rw [h]
  show (match mb ρ1 with
      | .nx ρ2 => forL g mb xs ρ2
      | f => f) = _
  rw [h2]
theorem rangeD_len (lo c : Int) (n : Nat) : (rangeD lo c n).length = n := by unfold rangeD; simp
/-- a loop with an invariant: it goes through -/
theorem forL_inv (I : Nat → Env → Prop) {g : D → Env → Option Env} {mb : Env → Flow} : ∀ (xs : List D) (k : Nat) (ρ : Env), I k ρ →
    (∀ j ρ d, I (k + j) ρ → xs[j]? = some d → ∃ ρ1 ρ2, g d ρ = some ρ1 ∧ mb ρ1 = .nx ρ2 ∧ I (k + j + 1) ρ2) → ∃ ρ', forL g mb xs ρ = .nx ρ' ∧ I (k + xs.length) ρ'
  | [], k, ρ, h, _ => ⟨ρ, rfl, h⟩
  | x :: xs, k, ρ, h, st => by
    obtain ⟨ρ1, ρ2, e1, e2, h2⟩ := st 0 ρ x h rfl
    rw [forL_cons e1 e2]
    obtain ⟨ρ', e, h3⟩ := forL_inv I xs (k + 1) ρ2 h2 fun j ρ d hI hd => by
      have := st (j + 1) ρ d (by have e : k + (j + 1) = k + 1 + j := by omega
                                 rw [e]; exact hI) (by simpa using hd)
      have e : k + (j + 1) + 1 = k + 1 + j + 1 := by omega
      rw [e] at this
      exact this
    refine ⟨ρ', e, ?_⟩
    have e : k + (x :: xs).length = k + 1 + xs.length := by simp; omega
    rw [e]; exact h3
theorem rangeD_get {lo c : Int} {n j : Nat} {d : D} (h : (rangeD lo c n)[j]? = some d) : j < n ∧ d = .int (lo + j * c) := by
  unfold rangeD at h
  rw [List.getElem?_map] at h
  cases q : (List.range n)[j]? with
  | none => rw [q] at h; cases h
  | some i =>
    rw [q] at h
    obtain ⟨hl, e⟩ := List.getElem?_eq_some_iff.mp q
    rw [List.length_range] at hl
    rw [List.getElem_range] at e
    subst e
    exact ⟨hl, (Option.some.inj h).symm⟩
/-! comprehensions: every item gives a value -/
theorem compL_map {g : D → Env → Option Env} {mt : Env → Res Bool} {me : Env → Res D} {ρ : Env} (f : D → D) : ∀ (xs : List D), (∀ x ∈ xs, ∃ ρ1, g x ρ = some ρ1 ∧ mt ρ1 = .ok true ∧ me ρ1 = .ok (f x)) → compL g mt me ρ xs = .ok (xs.map f)
  | [], _ => rfl
  | x :: xs, h => by
    obtain ⟨ρ1, e1, e2, e3⟩ := h x (List.mem_cons_self ..)
    unfold compL
    rw [e1]
    show (nerr (mt ρ1) >>= _) = _
    rw [e2]
    show (nerr (me ρ1) >>= _) = _
    rw [e3]
    show (compL g mt me ρ xs >>= _) = _
    rw [compL_map f xs fun y hy => h y (List.mem_cons_of_mem _ hy)]
    rfl
theorem comp_map {vs : List Nat} {mi : Env → Res (List D)} {g : D → Env → Option Env} {mt : Env → Res Bool} {me : Env → Res D} {ρ : Env} {xs : List D} (f : D → D) (hi : mi ρ = .ok xs) (hl : xs.length ≤ sizeLine) (h : ∀ x ∈ xs, ∃ ρ1, g x (wipeE ρ vs) = some ρ1 ∧ mt ρ1 = .ok true ∧ me ρ1 = .ok (f x)) : mComp vs mi g mt me ρ = .ok (xs.map f) := by
  unfold mComp
  rw [hi]
  show (match decide (xs.length ≤ sizeLine) with
    | true => compL g mt me (wipeE ρ vs) xs
    | false => .bad) = _
  rw [decide_eq_true hl]
  exact compL_map f xs h
theorem boolsOf_map {α : Type} (f : α → Bool) : ∀ xs : List α, boolsOf (xs.map fun x => .bl (f x)) = some (xs.map f)
  | [] => rfl
  | x :: xs => by
    show (boolsOf (xs.map fun x => D.bl (f x))).map (f x :: ·) = _
    rw [boolsOf_map f xs]
    rfl
/-! the words at given values -/
theorem idxD_lst (xs : List D) (i : Int) : idxD (.lst xs) (.int i) = opt (atI xs i) := rfl
theorem idxD_tup (xs : List D) (i : Int) : idxD (.tup xs) (.int i) = opt (atI xs i) := rfl
theorem idxD_scr (xs : List Int) (i : Int) : idxD (.scr xs) (.int i) = opt ((atI xs i).map .int) := rfl
theorem ltD_i (a b : Int) : ltD (.int a) (.int b) = .ok (.bl (decide (a < b))) := rfl
theorem leD_i (a b : Int) : leD (.int a) (.int b) = .ok (.bl (decide (a ≤ b))) := rfl
theorem gtD_i (a b : Int) : gtD (.int a) (.int b) = .ok (.bl (decide (a > b))) := rfl
theorem geD_i (a b : Int) : geD (.int a) (.int b) = .ok (.bl (decide (a ≥ b))) := rfl
theorem eqD_i (a b : Int) : eqD (.int a) (.int b) = .ok (.bl (decide (a = b))) := rfl
theorem neD_i (a b : Int) : neD (.int a) (.int b) = .ok (.bl (!decide (a = b))) := rfl
theorem eqD_b (a b : Bool) : eqD (.bl a) (.bl b) = .ok (.bl (decide (a = b))) := rfl
theorem neD_b (a b : Bool) : neD (.bl a) (.bl b) = .ok (.bl (!decide (a = b))) := rfl
theorem eqD_s (a b : Str) : eqD (.str a) (.str b) = .ok (.bl (decide (a = b))) := rfl
theorem neD_s (a b : Str) : neD (.str a) (.str b) = .ok (.bl (!decide (a = b))) := rfl
theorem absD_i (i : Int) : absD [.int i] = .ok (.int (if i < 0 then -i else i)) := rfl
theorem intD_i (i : Int) : intD [.int i] = .ok (.int i) := rfl
theorem negD_i (i : Int) : negD (.int i) = .ok (.int (-i)) := rfl
theorem lenD_lst (xs : List D) : lenD [.lst xs] = .ok (.int xs.length) := rfl
theorem lenD_tup (xs : List D) : lenD [.tup xs] = .ok (.int xs.length) := rfl
theorem lenD_scr (xs : List Int) : lenD [.scr xs] = .ok (.int xs.length) := rfl
theorem opt_some {α : Type} (a : α) : opt (some a) = .ok a := rfl
theorem rng1_p (n : Nat) (h : n < 4611686018427387904) : rng1 [.int n] = .ok (rangeD 0 1 n) := by
  have e : -(2 ^ 62) ≤ (n : Int) ∧ (n : Int) < 2 ^ 62 := ⟨by omega, by omega⟩
  unfold rng1
  dsimp only
  rw [if_pos e, Int.toNat_natCast]
theorem allD_b {α : Type} (f : α → Bool) (xs : List α) : allD [.lst (xs.map fun x => .bl (f x))] = .ok (.bl (xs.all f)) := by
  show (opt (boolsOf (xs.map fun x => .bl (f x))) >>= fun ns => Res.ok (D.bl (ns.all id))) = _
  rw [boolsOf_map f xs]
  show Res.ok (D.bl ((xs.map f).all id)) = _
  rw [List.all_map]
  rfl
theorem appG_ok (xs : List D) (d : D) (h : xs.length < sizeLine) : appG xs [d] = .ok (xs ++ [d]) := if_pos h
/-! tests and statements as values -/
def andB : Res Bool → Res Bool → Res Bool
  | .ok true, r => r
  | .ok false, _ => .ok false
  | .err x, _ => .err x
  | .bad, _ => .bad
def orB : Res Bool → Res Bool → Res Bool
  | .ok true, _ => .ok true
  | .ok false, r => r
  | .err x, _ => .err x
  | .bad, _ => .bad
def andVB : Res D → Res D → Res D
  | .ok (.bl true), r => r
  | .ok (.bl false), _ => .ok (.bl false)
  | .err x, _ => .err x
  | _, _ => .bad
def orVB : Res D → Res D → Res D
  | .ok (.bl true), _ => .ok (.bl true)
  | .ok (.bl false), r => r
  | .err x, _ => .err x
  | _, _ => .bad
theorem nr {α : Type} {a b : α} (h : a = b) : a = b := h
theorem andB_ok (a b : Bool) : andB (.ok a) (.ok b) = .ok (a && b) := by cases a <;> rfl
theorem andB_f (r : Res Bool) : andB (.ok false) r = .ok false := nr rfl
theorem andB_t (r : Res Bool) : andB (.ok true) r = r := nr rfl
theorem orB_ok (a b : Bool) : orB (.ok a) (.ok b) = .ok (a || b) := by cases a <;> rfl
theorem orB_f (r : Res Bool) : orB (.ok false) r = r := nr rfl
theorem orB_t (r : Res Bool) : orB (.ok true) r = .ok true := nr rfl
theorem andVB_ok (a b : Bool) : andVB (.ok (.bl a)) (.ok (.bl b)) = .ok (.bl (a && b)) := by cases a <;> rfl
theorem andVB_f (r : Res D) : andVB (.ok (.bl false)) r = .ok (.bl false) := nr rfl
theorem andVB_t (r : Res D) : andVB (.ok (.bl true)) r = r := nr rfl
theorem orVB_ok (a b : Bool) : orVB (.ok (.bl a)) (.ok (.bl b)) = .ok (.bl (a || b)) := by cases a <;> rfl
theorem orVB_f (r : Res D) : orVB (.ok (.bl false)) r = r := nr rfl
theorem orVB_t (r : Res D) : orVB (.ok (.bl true)) r = .ok (.bl true) := nr rfl
theorem mAnd_B (ta tb : Env → Res Bool) (ρ : Env) : mAnd ta tb ρ = andB (ta ρ) (tb ρ) := by
  unfold mAnd
  cases ta ρ with
  | ok b => cases b <;> rfl
  | err x => rfl
  | bad => rfl
theorem mOr_B (ta tb : Env → Res Bool) (ρ : Env) : mOr ta tb ρ = orB (ta ρ) (tb ρ) := by
  unfold mOr
  cases ta ρ with
  | ok b => cases b <;> rfl
  | err x => rfl
  | bad => rfl
theorem mAndV_B (ta tb : Env → Res D) (ρ : Env) : mAndV ta tb ρ = andVB (ta ρ) (tb ρ) := by
  unfold mAndV
  cases ta ρ with
  | ok d =>
    cases d with
    | bl b => cases b <;> rfl
    | _ => rfl
  | err x => rfl
  | bad => rfl
theorem mOrV_B (ta tb : Env → Res D) (ρ : Env) : mOrV ta tb ρ = orVB (ta ρ) (tb ρ) := by
  unfold mOrV
  cases ta ρ with
  | ok d =>
    cases d with
    | bl b => cases b <;> rfl
    | _ => rfl
  | err x => rfl
  | bad => rfl
theorem mChain_B (g g' : D → D → Res D) (ma mb mc : Env → Res D) (ρ : Env) : mChain g g' ma mb mc ρ = (ma ρ >>= fun x => mb ρ >>= fun y => andVB (g x y) (mc ρ >>= fun z => g' y z)) := by
  unfold mChain
  cases ma ρ with
  | err x => rfl
  | bad => rfl
  | ok x =>
    cases mb ρ with
    | err x => rfl
    | bad => rfl
    | ok y =>
      show ((g x y >>= tru) >>= _) = andVB (g x y) _
      cases g x y with
      | ok d =>
        cases d with
        | bl b => cases b <;> rfl
        | _ => rfl
      | err x => rfl
      | bad => rfl
def seqF : Flow → (Env → Flow) → Flow
  | .nx ρ, m => m ρ
  | f, _ => f
theorem mSeq_B (m m' : Env → Flow) (ρ : Env) : mSeq m m' ρ = seqF (m ρ) m' := by
  unfold mSeq seqF
  cases m ρ <;> rfl
theorem seqF_nx (ρ : Env) (m : Env → Flow) : seqF (.nx ρ) m = m ρ := nr rfl
theorem seqF_rt (d : D) (ρ : Env) (m : Env → Flow) : seqF (.rt d ρ) m = .rt d ρ := nr rfl
theorem seqF_er (x : Exc) (ρ : Env) (m : Env → Flow) : seqF (.er x ρ) m = .er x ρ := nr rfl
theorem seqF_if (c : Prop) [Decidable c] (a b : Flow) (m : Env → Flow) : seqF (if c then a else b) m = if c then seqF a m else seqF b m := by split <;> rfl
theorem mIfS_B (t : Env → Res Bool) (m m' : Env → Flow) (ρ : Env) : mIfS t m m' ρ = bindF (t ρ) ρ fun k => if k = true then m ρ else m' ρ := by
  unfold mIfS
  cases t ρ with
  | ok b => cases b <;> rfl
  | err x => rfl
  | bad => rfl
theorem mIf_B {α : Type} (t : Env → Res Bool) (m m' : Env → Res α) (ρ : Env) : mIf t m m' ρ = (t ρ >>= fun k => if k = true then m ρ else m' ρ) := by
  unfold mIf
  cases t ρ with
  | ok b => cases b <;> rfl
  | err x => rfl
  | bad => rfl
theorem bind_if {α β : Type} (c : Prop) [Decidable c] (a b : Res α) (f : α → Res β) : ((if c then a else b) >>= f) = if c then (a >>= f) else (b >>= f) := by split <;> rfl
theorem bindF_if {α : Type} (c : Prop) [Decidable c] (a b : Res α) (ρ : Env) (f : α → Flow) : bindF (if c then a else b) ρ f = if c then bindF a ρ f else bindF b ρ f := by split <;> rfl
def runF : Flow → Res D
  | .nx _ => .ok .non
  | .rt d _ => .ok d
  | .er x _ => .err x
  | .bad => .bad
theorem runD_B (l : Nat) (m : Env → Flow) (ds : List D) : runD l m ds = runF (m (startE l ds)) := by unfold runD runF; cases m (startE l ds) <;> rfl
theorem runF_rt (d : D) (ρ : Env) : runF (.rt d ρ) = .ok d := nr rfl
theorem runF_nx (ρ : Env) : runF (.nx ρ) = .ok .non := nr rfl
theorem runF_er (x : Exc) (ρ : Env) : runF (.er x ρ) = .err x := nr rfl
theorem runF_if (c : Prop) [Decidable c] (a b : Flow) : runF (if c then a else b) = if c then runF a else runF b := by split <;> rfl
def runIF (c : Nat) : Flow → Res (List D)
  | .nx ρ => finI c ρ
  | .er x _ => .err x
  | _ => .bad
theorem runI_B (l c : Nat) (m : Env → Flow) (ds : List D) : runI l c m ds = runIF c (m (startI l c ds)) := by unfold runI runIF; cases m (startI l c ds) <;> rfl
theorem runIF_nx (c : Nat) (ρ : Env) : runIF c (.nx ρ) = finI c ρ := nr rfl
theorem runIF_er (c : Nat) (x : Exc) (ρ : Env) : runIF c (.er x ρ) = .err x := nr rfl
theorem runIF_if (k : Nat) (c : Prop) [Decidable c] (a b : Flow) : runIF k (if c then a else b) = if c then runIF k a else runIF k b := by split <;> rfl
theorem addD_l (a b : List D) : addD (.lst a) (.lst b) = if a.length + b.length ≤ sizeLine then .ok (.lst (a ++ b)) else .bad := nr rfl
theorem addD_t (a b : List D) : addD (.tup a) (.tup b) = if a ≠ [] ∧ b ≠ [] ∧ a.length + b.length ≤ sizeLine then .ok (.tup (a ++ b)) else .bad := nr rfl
theorem szl : sizeLine = 16777216 := nr rfl
def optF : Option Env → (Env → Flow) → Flow
  | some ρ, f => f ρ
  | none, _ => .bad
theorem optF_some (ρ : Env) (f : Env → Flow) : optF (some ρ) f = f ρ := nr rfl
theorem forL_nil (g : D → Env → Option Env) (mb : Env → Flow) (ρ : Env) : forL g mb [] ρ = .nx ρ := nr rfl
theorem forL_c (g : D → Env → Option Env) (mb : Env → Flow) (x : D) (xs : List D) (ρ : Env) : forL g mb (x :: xs) ρ = optF (g x ρ) fun ρ1 => seqF (mb ρ1) (forL g mb xs) := by
  show (match g x ρ with
    | none => Flow.bad
    | some ρ1 => match mb ρ1 with
      | .nx ρ2 => forL g mb xs ρ2
      | f => f) = _
  cases g x ρ with
  | none => rfl
  | some ρ1 =>
    show (match mb ρ1 with
      | .nx ρ2 => forL g mb xs ρ2
      | f => f) = seqF (mb ρ1) _
    cases mb ρ1 <;> rfl
theorem mFor_B (mi : Env → Res (List D)) (g : D → Env → Option Env) (mb : Env → Flow) (ρ : Env) : mFor mi g mb ρ = bindF (mi ρ) ρ fun xs => forL g mb xs ρ := nr rfl
theorem compL_nil (g : D → Env → Option Env) (mt : Env → Res Bool) (me : Env → Res D) (ρ : Env) : compL g mt me ρ [] = .ok [] := nr rfl
def optR {α : Type} : Option Env → (Env → Res α) → Res α
  | some ρ, f => f ρ
  | none, _ => .bad
theorem optR_some {α : Type} (ρ : Env) (f : Env → Res α) : optR (some ρ) f = f ρ := nr rfl
theorem compL_c (g : D → Env → Option Env) (mt : Env → Res Bool) (me : Env → Res D) (ρ : Env) (x : D) (xs : List D) : compL g mt me ρ (x :: xs) = optR (g x ρ) fun ρ1 => nerr (mt ρ1) >>= fun b => if b = true then nerr (me ρ1) >>= fun d => compL g mt me ρ xs >>= fun ds => .ok (d :: ds) else compL g mt me ρ xs := by
  show (match g x ρ with
    | none => Res.bad
    | some ρ1 => nerr (mt ρ1) >>= fun b => match b with
      | true => nerr (me ρ1) >>= fun d => compL g mt me ρ xs >>= fun ds => .ok (d :: ds)
      | false => compL g mt me ρ xs) = _
  cases g x ρ with
  | none => rfl
  | some ρ1 =>
    show (nerr (mt ρ1) >>= _) = (nerr (mt ρ1) >>= _)
    cases nerr (mt ρ1) with
    | ok b => cases b <;> rfl
    | err x => rfl
    | bad => rfl
theorem nerr_ok {α : Type} (a : α) : nerr (.ok a : Res α) = .ok a := nr rfl
theorem mComp_B (vs : List Nat) (mi : Env → Res (List D)) (g : D → Env → Option Env) (mt : Env → Res Bool) (me : Env → Res D) (ρ : Env) : mComp vs mi g mt me ρ = (mi ρ >>= fun xs => if xs.length ≤ sizeLine then compL g mt me (wipeE ρ vs) xs else .bad) := by
  unfold mComp
  cases mi ρ with
  | ok xs =>
    show (match decide (xs.length ≤ sizeLine) with
      | true => compL g mt me (wipeE ρ vs) xs
      | false => .bad) = if xs.length ≤ sizeLine then compL g mt me (wipeE ρ vs) xs else .bad
    by_cases h : xs.length ≤ sizeLine
    · rw [if_pos h, decide_eq_true h]
    · rw [if_neg h, decide_eq_false h]
  | err x => rfl
  | bad => rfl
theorem allD_l (xs : List D) : allD [.lst xs] = (opt (boolsOf xs) >>= fun ns => .ok (.bl (ns.all id))) := nr rfl
theorem anyD_l (xs : List D) : anyD [.lst xs] = (opt (boolsOf xs) >>= fun ns => .ok (.bl (ns.any id))) := nr rfl
theorem bools_nil : boolsOf [] = some [] := nr rfl
theorem bools_c (b : Bool) (xs : List D) : boolsOf (.bl b :: xs) = (boolsOf xs).map (b :: ·) := nr rfl
theorem seqOf_l (xs : List D) : seqOf (.lst xs) = .ok xs := nr rfl
theorem seqOf_t (xs : List D) : seqOf (.tup xs) = .ok xs := nr rfl
end Cr
/-! the laws' common defs -/
namespace Cr
open PySem L2
theorem atI_nat {α : Type} (xs : List α) (k : Nat) (h : k < xs.length) : atI xs (k : Int) = some xs[k] := by
  unfold atI ixN
  rw [if_pos (by omega), if_pos (by omega)]
  simp [h]
theorem cell_ev (ns : List Int) (k : Nat) : ∃ c : Int, 0 ≤ c ∧ m_law_cell [.scr ns, .int k] = .ok (.int c) := by
  by_cases h : k < ns.length
  · refine ⟨if ns[k] < 0 then -ns[k] else ns[k], by split <;> omega, runD_rt (ρ := startE 2 [.scr ns, .int k]) ?_⟩
    unfold b_law_cell
    rw [seq_rt]
    rw [if_t]
    · apply ret_ok
      have e : idxD (.scr ns) (.int k) = .ok (.int ns[k]) := by
        rw [idxD_scr, atI_nat ns k h]
        rfl
      simp -implicitDefEqProofs only [mArg, mCons, mNil, mBin, mVar, startE, List.map_cons, List.map_nil, List.cons_append, List.getElem?_cons_zero, List.getElem?_cons_succ, bind_ok, e, intD, absD]
    · show Res.ok (decide ((k : Int) < (ns.length : Int))) = _
      rw [decide_eq_true (by omega)]
  · refine ⟨0, by omega, runD_rt (ρ := startE 2 [.scr ns, .int k]) ?_⟩
    unfold b_law_cell
    rw [seq_nx]
    · rfl
    · rw [if_f]
      · rfl
      · show Res.ok (decide ((k : Int) < (ns.length : Int))) = _
        rw [decide_eq_false (by omega)]
def isNum (n : Nat) (xs : List Int) : Prop := xs.length = n ∧ ∀ x ∈ xs, 0 ≤ x ∧ x < 4096
def drE (c n : Int) (xs : List Int) (l : Int) (s4 s5 : Sl) : Env := [.v (.d (.int c)), .v (.d (.int n)), .v (.ol (xs.map D.int)), .v (.d (.int l)), s4, s5]
def drawB : Env → Flow := (mIfS (mAnd (mTst (mBin geD (mVar 0) (mBin powD (mC (.int 10)) (mC (.int 18))))) (mTst (mBin gtD (mVar 3) (mC (.int 0))))) (mSeq (mLm 2 appG (mCons (mBin modD (mArg intD (mCons (mVar 3) mNil)) (mC (.int 4096))) mNil)) (mSet 3 (mBin fdivD (mVar 3) (mC (.int 4096))))) (mSeq (mSet 5 (mBin modD (mArg intD (mCons (mBin addD (mBin mulD (mVar 0) (mC (.int 48271))) (mBin mulD (mBin addD (mVar 4) (mC (.int 1))) (mC (.int 69621)))) mNil)) (mC (.int 2147483647)))) (mSeq (mSet 5 (mBin modD (mArg intD (mCons (mBin addD (mBin addD (mBin mulD (mVar 5) (mVar 5)) (mBin mulD (mVar 5) (mC (.int 16807)))) (mBin mulD (mVar 4) (mC (.int 7919)))) mNil)) (mC (.int 2147483629)))) (mSeq (mSet 5 (mBin modD (mArg intD (mCons (mBin addD (mBin addD (mBin mulD (mVar 5) (mVar 5)) (mVar 0)) (mBin mulD (mC (.int 13)) (mVar 4))) mNil)) (mC (.int 2147483587)))) (mLm 2 appG (mCons (mBin modD (mBin fdivD (mVar 5) (mC (.int 7))) (mC (.int 4096))) mNil))))))
theorem draws_ev (c : Int) (n : Nat) (hn : n < 1000) : ∃ xs : List Int, isNum n xs ∧ m_law_draws [.int c, .int n] = .ok (.lst (xs.map D.int)) := by
  let I : Nat → Env → Prop := fun k ρ => ∃ (xs : List Int) (l : Int) (s4 s5 : Sl), ρ = drE c n xs l s4 s5 ∧ isNum k xs ∧ okS [s4] 0 = true ∧ okS [s5] 0 = true
  have hz : sizeLine = 16777216 := rfl
  have L : ∀ (k : Nat) (ρ : Env) (d : D), k < n → I k ρ → d = .int k → ∃ ρ1 ρ2, gN 4 d ρ = some ρ1 ∧ drawB ρ1 = .nx ρ2 ∧ I (k + 1) ρ2 := by
    rintro k ρ d hk ⟨xs, l, s4, s5, rfl, hx, h4, h5⟩ rfl
    refine ⟨drE c n xs l (.v (.d (.int k))) s5, ?_⟩
    have e1 : gN 4 (.int k) (drE c n xs l s4 s5) = some (drE c n xs l (.v (.d (.int k))) s5) := if_pos h4
    have hl : (xs.map D.int).length < sizeLine := by rw [List.length_map, hx.1, hz]; omega
    have h5' : ∀ a b c d e, okS [a, b, c, d, e, s5] 5 = true := fun _ _ _ _ _ => h5
    have step : ∀ (y l' : Int) (t5 : Sl), 0 ≤ y ∧ y < 4096 → okS [t5] 0 = true → I (k + 1) (drE c n (xs ++ [y]) l' (.v (.d (.int k))) t5) := fun y l' t5 hy h => ⟨xs ++ [y], l', _, t5, rfl, ⟨by simp [hx.1], fun z hz => by
      rcases List.mem_append.mp hz with h | h
      · exact hx.2 z h
      · rw [List.mem_singleton.mp h]; exact hy⟩, rfl, h⟩
    have up : ∀ y, appG (xs.map D.int) [.int y] = .ok ((xs ++ [y]).map D.int) := fun y => by rw [appG_ok _ _ hl]; simp
    have ep : powD (.int 10) (.int 18) = .ok (.int 1000000000000000000) := powD_p 10 18 (by decide) (by decide)
    by_cases hc : 1000000000000000000 ≤ c ∧ 0 < l
    · unfold drawB
      refine ⟨_, e1, ?_, step (l % 4096) (l / 4096) s5 (by omega) h5⟩
      rw [if_t]
      · simp -implicitDefEqProofs only [drE, mEnd, mSet, mSetO, mRet, mEx, mIfS_B, mTst, mBin, mUn, mC, mVar, mVarB, mArg, mCons, mNil, toE, mLst, mTup, bindF_ok, put, okS, bind_ok, tru_bl, mAnd_B, mOr_B, andB_ok, andB_f, andB_t, orB_ok, orB_f, orB_t, andVB_ok, andVB_f, andVB_t, orVB_ok, orVB_f, orVB_t, mNot, mAndV_B, mOrV_B, mNotV, mIf_B, mChain_B, mSeq_B, seqF_nx, seqF_rt, seqF_er, seqF_if, bind_if, bindF_if, runF_rt, runF_nx, runF_er, runF_if, runIF_nx, runIF_er, runIF_if, mRaise, startE, startI, List.map_cons, List.map_nil, List.cons_append, List.nil_append, List.length_cons, List.length_nil, Nat.reduceAdd, Nat.reduceSub, List.replicate_zero, List.replicate_succ, List.append_nil, gN, gSc, gS0, gQ, gT, gL, mPart, intO, mNo, List.getElem?_cons_zero, List.getElem?_cons_succ, List.set_cons_zero, List.set_cons_succ, addD_i, subD_i, negD_i, ltD_i, leD_i, gtD_i, geD_i, eqD_i, neD_i, eqD_b, neD_b, eqD_s, neD_s, absD_i, intD_i, lenD_lst, lenD_tup, lenD_scr, isNonD, notNonD, isiD, reduceIte, if_true, mFrz, frzE, appG_ok, mLm, if_pos, ite_true, max2D, min2D, decide_true, decide_false, Bool.not_true, Bool.not_false, Bool.false_eq_true, Bool.true_and, Bool.and_true, Bool.false_and, Bool.and_false, Bool.true_or, Bool.or_true, Bool.false_or, Bool.or_false, true_and, and_true, Bool.and_eq_false_iff, gt_iff_lt, ge_iff_le, ite_false, if_false, decide_eq_true_eq, Bool.not_eq_true', Bool.and_eq_true, Bool.or_eq_true, decide_eq_false_iff_not, Int.reduceToNat, mFor_B, forL_nil, forL_c, optF_some, optR_some, compL_nil, compL_c, nerr_ok, mComp_B, mYes, allD_l, anyD_l, bools_nil, bools_c, Option.map_some, opt_some, List.all_cons, List.all_nil, List.any_cons, List.any_nil, id_eq, mUnF, seqOf_l, seqOf_t, addD_l, szl, Nat.reduceLeDiff, wipeE, Int.reduceLT, Int.reduceLE, Int.reduceNeg, Int.reducePow, Int.reduceAdd, Int.reduceSub, Int.reduceMul, and_self, modD_p, fdivD_p, mulD_r, mulD_l, up]
      · simp -implicitDefEqProofs only [drE, mEnd, mSet, mSetO, mRet, mEx, mIfS_B, mTst, mBin, mUn, mC, mVar, mVarB, mArg, mCons, mNil, toE, mLst, mTup, bindF_ok, put, okS, bind_ok, tru_bl, mAnd_B, mOr_B, andB_ok, andB_f, andB_t, orB_ok, orB_f, orB_t, andVB_ok, andVB_f, andVB_t, orVB_ok, orVB_f, orVB_t, mNot, mAndV_B, mOrV_B, mNotV, mIf_B, mChain_B, mSeq_B, seqF_nx, seqF_rt, seqF_er, seqF_if, bind_if, bindF_if, runF_rt, runF_nx, runF_er, runF_if, runIF_nx, runIF_er, runIF_if, mRaise, startE, startI, List.map_cons, List.map_nil, List.cons_append, List.nil_append, List.length_cons, List.length_nil, Nat.reduceAdd, Nat.reduceSub, List.replicate_zero, List.replicate_succ, List.append_nil, gN, gSc, gS0, gQ, gT, gL, mPart, intO, mNo, List.getElem?_cons_zero, List.getElem?_cons_succ, List.set_cons_zero, List.set_cons_succ, addD_i, subD_i, negD_i, ltD_i, leD_i, gtD_i, geD_i, eqD_i, neD_i, eqD_b, neD_b, eqD_s, neD_s, absD_i, intD_i, lenD_lst, lenD_tup, lenD_scr, isNonD, notNonD, isiD, reduceIte, if_true, mFrz, frzE, appG_ok, mLm, if_pos, ite_true, max2D, min2D, decide_true, decide_false, Bool.not_true, Bool.not_false, Bool.false_eq_true, Bool.true_and, Bool.and_true, Bool.false_and, Bool.and_false, Bool.true_or, Bool.or_true, Bool.false_or, Bool.or_false, true_and, and_true, Bool.and_eq_false_iff, gt_iff_lt, ge_iff_le, ite_false, if_false, decide_eq_true_eq, Bool.not_eq_true', Bool.and_eq_true, Bool.or_eq_true, decide_eq_false_iff_not, Int.reduceToNat, mFor_B, forL_nil, forL_c, optF_some, optR_some, compL_nil, compL_c, nerr_ok, mComp_B, mYes, allD_l, anyD_l, bools_nil, bools_c, Option.map_some, opt_some, List.all_cons, List.all_nil, List.any_cons, List.any_nil, id_eq, mUnF, seqOf_l, seqOf_t, addD_l, szl, Nat.reduceLeDiff, wipeE, Int.reduceLT, Int.reduceLE, Int.reduceNeg, Int.reducePow, Int.reduceAdd, Int.reduceSub, Int.reduceMul, and_self, modD_p, fdivD_p, mulD_r, mulD_l, ep, decide_eq_true hc.1, decide_eq_true hc.2]
    · have hsq : ∀ a : Int, mulD (.int (a % 2147483647)) (.int (a % 2147483647)) = .ok (.int (a % 2147483647 * (a % 2147483647))) := fun a => mulD_r _ _ (by omega)
      have hsq2 : ∀ a : Int, mulD (.int (a % 2147483629)) (.int (a % 2147483629)) = .ok (.int (a % 2147483629 * (a % 2147483629))) := fun a => mulD_r _ _ (by omega)
      have hf : (mAnd (mTst (mBin geD (mVar 0) (mBin powD (mC (.int 10)) (mC (.int 18))))) (mTst (mBin gtD (mVar 3) (mC (.int 0))))) (drE c n xs l (.v (.d (.int k))) s5) = .ok false := by
        by_cases h : 1000000000000000000 ≤ c
        · have h2 : ¬ 0 < l := fun z => hc ⟨h, z⟩
          simp -implicitDefEqProofs only [drE, mEnd, mSet, mSetO, mRet, mEx, mIfS_B, mTst, mBin, mUn, mC, mVar, mVarB, mArg, mCons, mNil, toE, mLst, mTup, bindF_ok, put, okS, bind_ok, tru_bl, mAnd_B, mOr_B, andB_ok, andB_f, andB_t, orB_ok, orB_f, orB_t, andVB_ok, andVB_f, andVB_t, orVB_ok, orVB_f, orVB_t, mNot, mAndV_B, mOrV_B, mNotV, mIf_B, mChain_B, mSeq_B, seqF_nx, seqF_rt, seqF_er, seqF_if, bind_if, bindF_if, runF_rt, runF_nx, runF_er, runF_if, runIF_nx, runIF_er, runIF_if, mRaise, startE, startI, List.map_cons, List.map_nil, List.cons_append, List.nil_append, List.length_cons, List.length_nil, Nat.reduceAdd, Nat.reduceSub, List.replicate_zero, List.replicate_succ, List.append_nil, gN, gSc, gS0, gQ, gT, gL, mPart, intO, mNo, List.getElem?_cons_zero, List.getElem?_cons_succ, List.set_cons_zero, List.set_cons_succ, addD_i, subD_i, negD_i, ltD_i, leD_i, gtD_i, geD_i, eqD_i, neD_i, eqD_b, neD_b, eqD_s, neD_s, absD_i, intD_i, lenD_lst, lenD_tup, lenD_scr, isNonD, notNonD, isiD, reduceIte, if_true, mFrz, frzE, appG_ok, mLm, if_pos, ite_true, max2D, min2D, decide_true, decide_false, Bool.not_true, Bool.not_false, Bool.false_eq_true, Bool.true_and, Bool.and_true, Bool.false_and, Bool.and_false, Bool.true_or, Bool.or_true, Bool.false_or, Bool.or_false, true_and, and_true, Bool.and_eq_false_iff, gt_iff_lt, ge_iff_le, ite_false, if_false, decide_eq_true_eq, Bool.not_eq_true', Bool.and_eq_true, Bool.or_eq_true, decide_eq_false_iff_not, Int.reduceToNat, mFor_B, forL_nil, forL_c, optF_some, optR_some, compL_nil, compL_c, nerr_ok, mComp_B, mYes, allD_l, anyD_l, bools_nil, bools_c, Option.map_some, opt_some, List.all_cons, List.all_nil, List.any_cons, List.any_nil, id_eq, mUnF, seqOf_l, seqOf_t, addD_l, szl, Nat.reduceLeDiff, wipeE, Int.reduceLT, Int.reduceLE, Int.reduceNeg, Int.reducePow, Int.reduceAdd, Int.reduceSub, Int.reduceMul, and_self, modD_p, fdivD_p, mulD_r, mulD_l, ep, decide_eq_true h, decide_eq_false h2]
        · simp -implicitDefEqProofs only [drE, mEnd, mSet, mSetO, mRet, mEx, mIfS_B, mTst, mBin, mUn, mC, mVar, mVarB, mArg, mCons, mNil, toE, mLst, mTup, bindF_ok, put, okS, bind_ok, tru_bl, mAnd_B, mOr_B, andB_ok, andB_f, andB_t, orB_ok, orB_f, orB_t, andVB_ok, andVB_f, andVB_t, orVB_ok, orVB_f, orVB_t, mNot, mAndV_B, mOrV_B, mNotV, mIf_B, mChain_B, mSeq_B, seqF_nx, seqF_rt, seqF_er, seqF_if, bind_if, bindF_if, runF_rt, runF_nx, runF_er, runF_if, runIF_nx, runIF_er, runIF_if, mRaise, startE, startI, List.map_cons, List.map_nil, List.cons_append, List.nil_append, List.length_cons, List.length_nil, Nat.reduceAdd, Nat.reduceSub, List.replicate_zero, List.replicate_succ, List.append_nil, gN, gSc, gS0, gQ, gT, gL, mPart, intO, mNo, List.getElem?_cons_zero, List.getElem?_cons_succ, List.set_cons_zero, List.set_cons_succ, addD_i, subD_i, negD_i, ltD_i, leD_i, gtD_i, geD_i, eqD_i, neD_i, eqD_b, neD_b, eqD_s, neD_s, absD_i, intD_i, lenD_lst, lenD_tup, lenD_scr, isNonD, notNonD, isiD, reduceIte, if_true, mFrz, frzE, appG_ok, mLm, if_pos, ite_true, max2D, min2D, decide_true, decide_false, Bool.not_true, Bool.not_false, Bool.false_eq_true, Bool.true_and, Bool.and_true, Bool.false_and, Bool.and_false, Bool.true_or, Bool.or_true, Bool.false_or, Bool.or_false, true_and, and_true, Bool.and_eq_false_iff, gt_iff_lt, ge_iff_le, ite_false, if_false, decide_eq_true_eq, Bool.not_eq_true', Bool.and_eq_true, Bool.or_eq_true, decide_eq_false_iff_not, Int.reduceToNat, mFor_B, forL_nil, forL_c, optF_some, optR_some, compL_nil, compL_c, nerr_ok, mComp_B, mYes, allD_l, anyD_l, bools_nil, bools_c, Option.map_some, opt_some, List.all_cons, List.all_nil, List.any_cons, List.any_nil, id_eq, mUnF, seqOf_l, seqOf_t, addD_l, szl, Nat.reduceLeDiff, wipeE, Int.reduceLT, Int.reduceLE, Int.reduceNeg, Int.reducePow, Int.reduceAdd, Int.reduceSub, Int.reduceMul, and_self, modD_p, fdivD_p, mulD_r, mulD_l, ep, decide_eq_false h]
      unfold drawB
      refine ⟨_, e1, ?_, step (((((c * 48271 + (k + 1) * 69621) % 2147483647 * ((c * 48271 + (k + 1) * 69621) % 2147483647) + (c * 48271 + (k + 1) * 69621) % 2147483647 * 16807 + k * 7919) % 2147483629 * (((c * 48271 + (k + 1) * 69621) % 2147483647 * ((c * 48271 + (k + 1) * 69621) % 2147483647) + (c * 48271 + (k + 1) * 69621) % 2147483647 * 16807 + k * 7919) % 2147483629) + c + 13 * k) % 2147483587) / 7 % 4096) l (.v (.d (.int ((((c * 48271 + (k + 1) * 69621) % 2147483647 * ((c * 48271 + (k + 1) * 69621) % 2147483647) + (c * 48271 + (k + 1) * 69621) % 2147483647 * 16807 + k * 7919) % 2147483629 * (((c * 48271 + (k + 1) * 69621) % 2147483647 * ((c * 48271 + (k + 1) * 69621) % 2147483647) + (c * 48271 + (k + 1) * 69621) % 2147483647 * 16807 + k * 7919) % 2147483629) + c + 13 * k) % 2147483587)))) ?_ rfl⟩
      · rw [if_f hf]
        have h6 : s5 = .no ∨ ∃ x, s5 = .v x := by
          cases s5 with
          | no => exact .inl rfl
          | v x => exact .inr ⟨x, rfl⟩
          | oo c f => cases h5
        rcases h6 with rfl | ⟨x, rfl⟩ <;> simp -implicitDefEqProofs only [drE, mEnd, mSet, mSetO, mRet, mEx, mIfS_B, mTst, mBin, mUn, mC, mVar, mVarB, mArg, mCons, mNil, toE, mLst, mTup, bindF_ok, put, okS, bind_ok, tru_bl, mAnd_B, mOr_B, andB_ok, andB_f, andB_t, orB_ok, orB_f, orB_t, andVB_ok, andVB_f, andVB_t, orVB_ok, orVB_f, orVB_t, mNot, mAndV_B, mOrV_B, mNotV, mIf_B, mChain_B, mSeq_B, seqF_nx, seqF_rt, seqF_er, seqF_if, bind_if, bindF_if, runF_rt, runF_nx, runF_er, runF_if, runIF_nx, runIF_er, runIF_if, mRaise, startE, startI, List.map_cons, List.map_nil, List.cons_append, List.nil_append, List.length_cons, List.length_nil, Nat.reduceAdd, Nat.reduceSub, List.replicate_zero, List.replicate_succ, List.append_nil, gN, gSc, gS0, gQ, gT, gL, mPart, intO, mNo, List.getElem?_cons_zero, List.getElem?_cons_succ, List.set_cons_zero, List.set_cons_succ, addD_i, subD_i, negD_i, ltD_i, leD_i, gtD_i, geD_i, eqD_i, neD_i, eqD_b, neD_b, eqD_s, neD_s, absD_i, intD_i, lenD_lst, lenD_tup, lenD_scr, isNonD, notNonD, isiD, reduceIte, if_true, mFrz, frzE, appG_ok, mLm, if_pos, ite_true, max2D, min2D, decide_true, decide_false, Bool.not_true, Bool.not_false, Bool.false_eq_true, Bool.true_and, Bool.and_true, Bool.false_and, Bool.and_false, Bool.true_or, Bool.or_true, Bool.false_or, Bool.or_false, true_and, and_true, Bool.and_eq_false_iff, gt_iff_lt, ge_iff_le, ite_false, if_false, decide_eq_true_eq, Bool.not_eq_true', Bool.and_eq_true, Bool.or_eq_true, decide_eq_false_iff_not, Int.reduceToNat, mFor_B, forL_nil, forL_c, optF_some, optR_some, compL_nil, compL_c, nerr_ok, mComp_B, mYes, allD_l, anyD_l, bools_nil, bools_c, Option.map_some, opt_some, List.all_cons, List.all_nil, List.any_cons, List.any_nil, id_eq, mUnF, seqOf_l, seqOf_t, addD_l, szl, Nat.reduceLeDiff, wipeE, Int.reduceLT, Int.reduceLE, Int.reduceNeg, Int.reducePow, Int.reduceAdd, Int.reduceSub, Int.reduceMul, and_self, modD_p, fdivD_p, mulD_r, mulD_l, up, hsq, hsq2]
      · omega
  have h0 : I 0 (drE c n [] c .no .no) := ⟨[], c, .no, .no, rfl, ⟨rfl, fun x h => by cases h⟩, rfl, rfl⟩
  obtain ⟨ρ', e, xs, l, s4, s5, rfl, hx, _, _⟩ := forL_inv I (g := gN 4) (mb := drawB) (rangeD 0 1 n) 0 _ h0 fun j ρ d hI hd => by
    obtain ⟨hj, rfl⟩ := rangeD_get hd
    have := L j ρ (.int (0 + j * 1)) hj (by rw [Nat.zero_add] at hI; exact hI) (by rw [Int.zero_add, Int.mul_one])
    rw [Nat.zero_add]
    exact this
  rw [Nat.zero_add, rangeD_len] at hx
  refine ⟨xs, hx, runD_rt (ρ := drE c n xs l s4 s5 |>.set 2 (.v (.d (.lst (xs.map D.int))))) ?_⟩
  unfold b_law_draws
  rw [seq_nx (setO_ok (d := []) rfl rfl), seq_nx (set_ok (d := .int c) rfl rfl)]
  rw [seq_nx (ρ' := drE c n xs l s4 s5)]
  · rfl
  · rw [for_ok (xs := rangeD 0 1 n)]
    · exact e
    · simp -implicitDefEqProofs only [mEnd, mSet, mSetO, mRet, mEx, mIfS_B, mTst, mBin, mUn, mC, mVar, mVarB, mArg, mCons, mNil, toE, mLst, mTup, bindF_ok, put, okS, bind_ok, tru_bl, mAnd_B, mOr_B, andB_ok, andB_f, andB_t, orB_ok, orB_f, orB_t, andVB_ok, andVB_f, andVB_t, orVB_ok, orVB_f, orVB_t, mNot, mAndV_B, mOrV_B, mNotV, mIf_B, mChain_B, mSeq_B, seqF_nx, seqF_rt, seqF_er, seqF_if, bind_if, bindF_if, runF_rt, runF_nx, runF_er, runF_if, runIF_nx, runIF_er, runIF_if, mRaise, startE, startI, List.map_cons, List.map_nil, List.cons_append, List.nil_append, List.length_cons, List.length_nil, Nat.reduceAdd, Nat.reduceSub, List.replicate_zero, List.replicate_succ, List.append_nil, gN, gSc, gS0, gQ, gT, gL, mPart, intO, mNo, List.getElem?_cons_zero, List.getElem?_cons_succ, List.set_cons_zero, List.set_cons_succ, addD_i, subD_i, negD_i, ltD_i, leD_i, gtD_i, geD_i, eqD_i, neD_i, eqD_b, neD_b, eqD_s, neD_s, absD_i, intD_i, lenD_lst, lenD_tup, lenD_scr, isNonD, notNonD, isiD, reduceIte, if_true, mFrz, frzE, appG_ok, mLm, if_pos, ite_true, max2D, min2D, decide_true, decide_false, Bool.not_true, Bool.not_false, Bool.false_eq_true, Bool.true_and, Bool.and_true, Bool.false_and, Bool.and_false, Bool.true_or, Bool.or_true, Bool.false_or, Bool.or_false, true_and, and_true, Bool.and_eq_false_iff, gt_iff_lt, ge_iff_le, ite_false, if_false, decide_eq_true_eq, Bool.not_eq_true', Bool.and_eq_true, Bool.or_eq_true, decide_eq_false_iff_not, Int.reduceToNat, mFor_B, forL_nil, forL_c, optF_some, optR_some, compL_nil, compL_c, nerr_ok, mComp_B, mYes, allD_l, anyD_l, bools_nil, bools_c, Option.map_some, opt_some, List.all_cons, List.all_nil, List.any_cons, List.any_nil, id_eq, mUnF, seqOf_l, seqOf_t, addD_l, szl, Nat.reduceLeDiff, wipeE, Int.reduceLT, Int.reduceLE, Int.reduceNeg, Int.reducePow, Int.reduceAdd, Int.reduceSub, Int.reduceMul, and_self, modD_p, fdivD_p, mulD_r, mulD_l, startE, List.map_cons, List.map_nil, List.cons_append, List.nil_append]
      exact rng1_p n (by omega)
/-! data of which both are alike -/
mutual
def plainD : Nat → D → Prop
  | _, .non => True
  | _, .bl _ => True
  | _, .int _ => True
  | _, .str _ => True
  | n + 1, .tup xs => xs.length ≤ 16777216 ∧ plainL n xs
  | n + 1, .lst xs => xs.length ≤ 16777216 ∧ plainL n xs
  | _, _ => False
def plainL : Nat → List D → Prop
  | _, [] => True
  | n, x :: xs => plainD n x ∧ plainL n xs
end
theorem plainL_get : ∀ {n : Nat} {xs : List D} {x : D}, plainL n xs → x ∈ xs → plainD n x
  | n, [], x, _, h => by cases h
  | n, y :: ys, x, hp, h => by
    unfold plainL at hp
    rcases List.mem_cons.mp h with rfl | h
    · exact hp.1
    · exact plainL_get hp.2 h
theorem like_seq (m : List D → Res D) (x : D) (xs : List D) (hx : x = .lst xs ∨ x = .tup xs) (hl : xs.length ≤ 16777216) (h : ∀ x ∈ xs, m [x, x] = .ok (.bl true)) : runD 3 (b_law_like m) [x, x] = .ok (.bl true) := by
  have hz : sizeLine = 16777216 := rfl
  have ex : ∀ (j : Nat) (h : j < xs.length), idxD x (.int j) = .ok xs[j] := fun j h => by
    rcases hx with rfl | rfl
    · rw [idxD_lst, atI_nat xs j h]; rfl
    · rw [idxD_tup, atI_nat xs j h]; rfl
  have el : lenD [x] = .ok (.int xs.length) := by rcases hx with rfl | rfl <;> rfl
  have ec : mComp [2] (mArg rng1 (mCons (mArg lenD (mCons (mVar 1) mNil)) mNil)) (gN 2) mYes (mArg m (mCons (mBin idxD (mVar 0) (mVar 2)) (mCons (mBin idxD (mVar 1) (mVar 2)) mNil))) (startE 3 [x, x]) = .ok ((rangeD 0 1 xs.length).map fun _ => .bl true) := by
    refine comp_map (xs := rangeD 0 1 xs.length) (fun _ => .bl true) ?_ ?_ fun d hd => ?_
    · simp -implicitDefEqProofs only [mEnd, mSet, mSetO, mRet, mEx, mIfS_B, mTst, mBin, mUn, mC, mVar, mVarB, mArg, mCons, mNil, toE, mLst, mTup, bindF_ok, put, okS, bind_ok, tru_bl, mAnd_B, mOr_B, andB_ok, andB_f, andB_t, orB_ok, orB_f, orB_t, andVB_ok, andVB_f, andVB_t, orVB_ok, orVB_f, orVB_t, mNot, mAndV_B, mOrV_B, mNotV, mIf_B, mChain_B, mSeq_B, seqF_nx, seqF_rt, seqF_er, seqF_if, bind_if, bindF_if, runF_rt, runF_nx, runF_er, runF_if, runIF_nx, runIF_er, runIF_if, mRaise, startE, startI, List.map_cons, List.map_nil, List.cons_append, List.nil_append, List.length_cons, List.length_nil, Nat.reduceAdd, Nat.reduceSub, List.replicate_zero, List.replicate_succ, List.append_nil, gN, gSc, gS0, gQ, gT, gL, mPart, intO, mNo, List.getElem?_cons_zero, List.getElem?_cons_succ, List.set_cons_zero, List.set_cons_succ, addD_i, subD_i, negD_i, ltD_i, leD_i, gtD_i, geD_i, eqD_i, neD_i, eqD_b, neD_b, eqD_s, neD_s, absD_i, intD_i, lenD_lst, lenD_tup, lenD_scr, isNonD, notNonD, isiD, reduceIte, if_true, mFrz, frzE, appG_ok, mLm, if_pos, ite_true, max2D, min2D, decide_true, decide_false, Bool.not_true, Bool.not_false, Bool.false_eq_true, Bool.true_and, Bool.and_true, Bool.false_and, Bool.and_false, Bool.true_or, Bool.or_true, Bool.false_or, Bool.or_false, true_and, and_true, Bool.and_eq_false_iff, gt_iff_lt, ge_iff_le, ite_false, if_false, decide_eq_true_eq, Bool.not_eq_true', Bool.and_eq_true, Bool.or_eq_true, decide_eq_false_iff_not, Int.reduceToNat, mFor_B, forL_nil, forL_c, optF_some, optR_some, compL_nil, compL_c, nerr_ok, mComp_B, mYes, allD_l, anyD_l, bools_nil, bools_c, Option.map_some, opt_some, List.all_cons, List.all_nil, List.any_cons, List.any_nil, id_eq, mUnF, seqOf_l, seqOf_t, addD_l, szl, Nat.reduceLeDiff, wipeE, Int.reduceLT, Int.reduceLE, Int.reduceNeg, Int.reducePow, Int.reduceAdd, Int.reduceSub, Int.reduceMul, and_self, modD_p, fdivD_p, mulD_r, mulD_l, startE, List.map_cons, List.map_nil, List.cons_append, List.nil_append, el]
      exact rng1_p _ (by omega)
    · rw [rangeD_len, hz]; exact hl
    · obtain ⟨j, hj⟩ := List.getElem?_of_mem hd
      obtain ⟨hlt, rfl⟩ := rangeD_get hj
      refine ⟨[.v (.d x), .v (.d x), .v (.d (.int j))], ?_, rfl, ?_⟩
      · simp [gN, wipeE, startE, okS]
      · simp -implicitDefEqProofs only [mEnd, mSet, mSetO, mRet, mEx, mIfS_B, mTst, mBin, mUn, mC, mVar, mVarB, mArg, mCons, mNil, toE, mLst, mTup, bindF_ok, put, okS, bind_ok, tru_bl, mAnd_B, mOr_B, andB_ok, andB_f, andB_t, orB_ok, orB_f, orB_t, andVB_ok, andVB_f, andVB_t, orVB_ok, orVB_f, orVB_t, mNot, mAndV_B, mOrV_B, mNotV, mIf_B, mChain_B, mSeq_B, seqF_nx, seqF_rt, seqF_er, seqF_if, bind_if, bindF_if, runF_rt, runF_nx, runF_er, runF_if, runIF_nx, runIF_er, runIF_if, mRaise, startE, startI, List.map_cons, List.map_nil, List.cons_append, List.nil_append, List.length_cons, List.length_nil, Nat.reduceAdd, Nat.reduceSub, List.replicate_zero, List.replicate_succ, List.append_nil, gN, gSc, gS0, gQ, gT, gL, mPart, intO, mNo, List.getElem?_cons_zero, List.getElem?_cons_succ, List.set_cons_zero, List.set_cons_succ, addD_i, subD_i, negD_i, ltD_i, leD_i, gtD_i, geD_i, eqD_i, neD_i, eqD_b, neD_b, eqD_s, neD_s, absD_i, intD_i, lenD_lst, lenD_tup, lenD_scr, isNonD, notNonD, isiD, reduceIte, if_true, mFrz, frzE, appG_ok, mLm, if_pos, ite_true, max2D, min2D, decide_true, decide_false, Bool.not_true, Bool.not_false, Bool.false_eq_true, Bool.true_and, Bool.and_true, Bool.false_and, Bool.and_false, Bool.true_or, Bool.or_true, Bool.false_or, Bool.or_false, true_and, and_true, Bool.and_eq_false_iff, gt_iff_lt, ge_iff_le, ite_false, if_false, decide_eq_true_eq, Bool.not_eq_true', Bool.and_eq_true, Bool.or_eq_true, decide_eq_false_iff_not, Int.reduceToNat, mFor_B, forL_nil, forL_c, optF_some, optR_some, compL_nil, compL_c, nerr_ok, mComp_B, mYes, allD_l, anyD_l, bools_nil, bools_c, Option.map_some, opt_some, List.all_cons, List.all_nil, List.any_cons, List.any_nil, id_eq, mUnF, seqOf_l, seqOf_t, addD_l, szl, Nat.reduceLeDiff, wipeE, Int.reduceLT, Int.reduceLE, Int.reduceNeg, Int.reducePow, Int.reduceAdd, Int.reduceSub, Int.reduceMul, and_self, modD_p, fdivD_p, mulD_r, mulD_l, ex j hlt]
        exact h _ (List.getElem_mem hlt)
  have ea : allD [.lst ((rangeD 0 1 xs.length).map fun _ => .bl true)] = .ok (.bl true) := by
    rw [allD_b (fun _ => true)]
    simp
  refine runD_rt (ρ := startE 3 [x, x]) ?_
  unfold b_law_like
  rcases hx with rfl | rfl
  · rw [seq_if_f (by rfl), seq_if_f (by rfl), seq_if_f (by rfl), seq_if_f (by rfl), seq_if_f (by rfl)]
    rw [seq_if_f]
    · apply ret_ok
      simp -implicitDefEqProofs only [mArg, mCons, mNil, toE, ec, bind_ok, ea]
    · simp -implicitDefEqProofs only [mEnd, mSet, mSetO, mRet, mEx, mIfS_B, mTst, mBin, mUn, mC, mVar, mVarB, mArg, mCons, mNil, toE, mLst, mTup, bindF_ok, put, okS, bind_ok, tru_bl, mAnd_B, mOr_B, andB_ok, andB_f, andB_t, orB_ok, orB_f, orB_t, andVB_ok, andVB_f, andVB_t, orVB_ok, orVB_f, orVB_t, mNot, mAndV_B, mOrV_B, mNotV, mIf_B, mChain_B, mSeq_B, seqF_nx, seqF_rt, seqF_er, seqF_if, bind_if, bindF_if, runF_rt, runF_nx, runF_er, runF_if, runIF_nx, runIF_er, runIF_if, mRaise, startE, startI, List.map_cons, List.map_nil, List.cons_append, List.nil_append, List.length_cons, List.length_nil, Nat.reduceAdd, Nat.reduceSub, List.replicate_zero, List.replicate_succ, List.append_nil, gN, gSc, gS0, gQ, gT, gL, mPart, intO, mNo, List.getElem?_cons_zero, List.getElem?_cons_succ, List.set_cons_zero, List.set_cons_succ, addD_i, subD_i, negD_i, ltD_i, leD_i, gtD_i, geD_i, eqD_i, neD_i, eqD_b, neD_b, eqD_s, neD_s, absD_i, intD_i, lenD_lst, lenD_tup, lenD_scr, isNonD, notNonD, isiD, reduceIte, if_true, mFrz, frzE, appG_ok, mLm, if_pos, ite_true, max2D, min2D, decide_true, decide_false, Bool.not_true, Bool.not_false, Bool.false_eq_true, Bool.true_and, Bool.and_true, Bool.false_and, Bool.and_false, Bool.true_or, Bool.or_true, Bool.false_or, Bool.or_false, true_and, and_true, Bool.and_eq_false_iff, gt_iff_lt, ge_iff_le, ite_false, if_false, decide_eq_true_eq, Bool.not_eq_true', Bool.and_eq_true, Bool.or_eq_true, decide_eq_false_iff_not, Int.reduceToNat, mFor_B, forL_nil, forL_c, optF_some, optR_some, compL_nil, compL_c, nerr_ok, mComp_B, mYes, allD_l, anyD_l, bools_nil, bools_c, Option.map_some, opt_some, List.all_cons, List.all_nil, List.any_cons, List.any_nil, id_eq, mUnF, seqOf_l, seqOf_t, addD_l, szl, Nat.reduceLeDiff, wipeE, Int.reduceLT, Int.reduceLE, Int.reduceNeg, Int.reducePow, Int.reduceAdd, Int.reduceSub, Int.reduceMul, and_self, modD_p, fdivD_p, mulD_r, mulD_l, startE, List.map_cons, List.map_nil, List.cons_append, List.nil_append, decide_true]
  · rw [seq_if_f (by rfl), seq_if_f (by rfl), seq_if_f (by rfl), seq_if_f (by rfl), seq_if_f (by rfl)]
    rw [seq_if_f]
    · apply ret_ok
      simp -implicitDefEqProofs only [mArg, mCons, mNil, toE, ec, bind_ok, ea]
    · simp -implicitDefEqProofs only [mEnd, mSet, mSetO, mRet, mEx, mIfS_B, mTst, mBin, mUn, mC, mVar, mVarB, mArg, mCons, mNil, toE, mLst, mTup, bindF_ok, put, okS, bind_ok, tru_bl, mAnd_B, mOr_B, andB_ok, andB_f, andB_t, orB_ok, orB_f, orB_t, andVB_ok, andVB_f, andVB_t, orVB_ok, orVB_f, orVB_t, mNot, mAndV_B, mOrV_B, mNotV, mIf_B, mChain_B, mSeq_B, seqF_nx, seqF_rt, seqF_er, seqF_if, bind_if, bindF_if, runF_rt, runF_nx, runF_er, runF_if, runIF_nx, runIF_er, runIF_if, mRaise, startE, startI, List.map_cons, List.map_nil, List.cons_append, List.nil_append, List.length_cons, List.length_nil, Nat.reduceAdd, Nat.reduceSub, List.replicate_zero, List.replicate_succ, List.append_nil, gN, gSc, gS0, gQ, gT, gL, mPart, intO, mNo, List.getElem?_cons_zero, List.getElem?_cons_succ, List.set_cons_zero, List.set_cons_succ, addD_i, subD_i, negD_i, ltD_i, leD_i, gtD_i, geD_i, eqD_i, neD_i, eqD_b, neD_b, eqD_s, neD_s, absD_i, intD_i, lenD_lst, lenD_tup, lenD_scr, isNonD, notNonD, isiD, reduceIte, if_true, mFrz, frzE, appG_ok, mLm, if_pos, ite_true, max2D, min2D, decide_true, decide_false, Bool.not_true, Bool.not_false, Bool.false_eq_true, Bool.true_and, Bool.and_true, Bool.false_and, Bool.and_false, Bool.true_or, Bool.or_true, Bool.false_or, Bool.or_false, true_and, and_true, Bool.and_eq_false_iff, gt_iff_lt, ge_iff_le, ite_false, if_false, decide_eq_true_eq, Bool.not_eq_true', Bool.and_eq_true, Bool.or_eq_true, decide_eq_false_iff_not, Int.reduceToNat, mFor_B, forL_nil, forL_c, optF_some, optR_some, compL_nil, compL_c, nerr_ok, mComp_B, mYes, allD_l, anyD_l, bools_nil, bools_c, Option.map_some, opt_some, List.all_cons, List.all_nil, List.any_cons, List.any_nil, id_eq, mUnF, seqOf_l, seqOf_t, addD_l, szl, Nat.reduceLeDiff, wipeE, Int.reduceLT, Int.reduceLE, Int.reduceNeg, Int.reducePow, Int.reduceAdd, Int.reduceSub, Int.reduceMul, and_self, modD_p, fdivD_p, mulD_r, mulD_l, startE, List.map_cons, List.map_nil, List.cons_append, List.nil_append, decide_true]
theorem like_same : ∀ (n : Nat) (x : D), plainD n x → m_law_like (n + 1) [x, x] = .ok (.bl true)
  | n, .non, _ => rfl
  | n, .bl b, _ => by cases b <;> rfl
  | n, .int i, _ => by
    refine runD_rt (ρ := startE 3 [.int i, .int i]) ?_
    unfold b_law_like
    rw [seq_if_f (by rfl), seq_if_f (by rfl), seq_if_f (by rfl), seq_rt]
    rw [if_t (by rfl)]
    apply ret_ok
    simp -implicitDefEqProofs only [mEnd, mSet, mSetO, mRet, mEx, mIfS_B, mTst, mBin, mUn, mC, mVar, mVarB, mArg, mCons, mNil, toE, mLst, mTup, bindF_ok, put, okS, bind_ok, tru_bl, mAnd_B, mOr_B, andB_ok, andB_f, andB_t, orB_ok, orB_f, orB_t, andVB_ok, andVB_f, andVB_t, orVB_ok, orVB_f, orVB_t, mNot, mAndV_B, mOrV_B, mNotV, mIf_B, mChain_B, mSeq_B, seqF_nx, seqF_rt, seqF_er, seqF_if, bind_if, bindF_if, runF_rt, runF_nx, runF_er, runF_if, runIF_nx, runIF_er, runIF_if, mRaise, startE, startI, List.map_cons, List.map_nil, List.cons_append, List.nil_append, List.length_cons, List.length_nil, Nat.reduceAdd, Nat.reduceSub, List.replicate_zero, List.replicate_succ, List.append_nil, gN, gSc, gS0, gQ, gT, gL, mPart, intO, mNo, List.getElem?_cons_zero, List.getElem?_cons_succ, List.set_cons_zero, List.set_cons_succ, addD_i, subD_i, negD_i, ltD_i, leD_i, gtD_i, geD_i, eqD_i, neD_i, eqD_b, neD_b, eqD_s, neD_s, absD_i, intD_i, lenD_lst, lenD_tup, lenD_scr, isNonD, notNonD, isiD, reduceIte, if_true, mFrz, frzE, appG_ok, mLm, if_pos, ite_true, max2D, min2D, decide_true, decide_false, Bool.not_true, Bool.not_false, Bool.false_eq_true, Bool.true_and, Bool.and_true, Bool.false_and, Bool.and_false, Bool.true_or, Bool.or_true, Bool.false_or, Bool.or_false, true_and, and_true, Bool.and_eq_false_iff, gt_iff_lt, ge_iff_le, ite_false, if_false, decide_eq_true_eq, Bool.not_eq_true', Bool.and_eq_true, Bool.or_eq_true, decide_eq_false_iff_not, Int.reduceToNat, mFor_B, forL_nil, forL_c, optF_some, optR_some, compL_nil, compL_c, nerr_ok, mComp_B, mYes, allD_l, anyD_l, bools_nil, bools_c, Option.map_some, opt_some, List.all_cons, List.all_nil, List.any_cons, List.any_nil, id_eq, mUnF, seqOf_l, seqOf_t, addD_l, szl, Nat.reduceLeDiff, wipeE, Int.reduceLT, Int.reduceLE, Int.reduceNeg, Int.reducePow, Int.reduceAdd, Int.reduceSub, Int.reduceMul, and_self, modD_p, fdivD_p, mulD_r, mulD_l, startE, List.map_cons, List.map_nil, List.cons_append, List.nil_append, decide_true]
  | n, .str i, _ => by
    refine runD_rt (ρ := startE 3 [.str i, .str i]) ?_
    unfold b_law_like
    rw [seq_if_f (by rfl), seq_if_f (by rfl), seq_rt]
    rw [if_t (by rfl)]
    apply ret_ok
    simp -implicitDefEqProofs only [mEnd, mSet, mSetO, mRet, mEx, mIfS_B, mTst, mBin, mUn, mC, mVar, mVarB, mArg, mCons, mNil, toE, mLst, mTup, bindF_ok, put, okS, bind_ok, tru_bl, mAnd_B, mOr_B, andB_ok, andB_f, andB_t, orB_ok, orB_f, orB_t, andVB_ok, andVB_f, andVB_t, orVB_ok, orVB_f, orVB_t, mNot, mAndV_B, mOrV_B, mNotV, mIf_B, mChain_B, mSeq_B, seqF_nx, seqF_rt, seqF_er, seqF_if, bind_if, bindF_if, runF_rt, runF_nx, runF_er, runF_if, runIF_nx, runIF_er, runIF_if, mRaise, startE, startI, List.map_cons, List.map_nil, List.cons_append, List.nil_append, List.length_cons, List.length_nil, Nat.reduceAdd, Nat.reduceSub, List.replicate_zero, List.replicate_succ, List.append_nil, gN, gSc, gS0, gQ, gT, gL, mPart, intO, mNo, List.getElem?_cons_zero, List.getElem?_cons_succ, List.set_cons_zero, List.set_cons_succ, addD_i, subD_i, negD_i, ltD_i, leD_i, gtD_i, geD_i, eqD_i, neD_i, eqD_b, neD_b, eqD_s, neD_s, absD_i, intD_i, lenD_lst, lenD_tup, lenD_scr, isNonD, notNonD, isiD, reduceIte, if_true, mFrz, frzE, appG_ok, mLm, if_pos, ite_true, max2D, min2D, decide_true, decide_false, Bool.not_true, Bool.not_false, Bool.false_eq_true, Bool.true_and, Bool.and_true, Bool.false_and, Bool.and_false, Bool.true_or, Bool.or_true, Bool.false_or, Bool.or_false, true_and, and_true, Bool.and_eq_false_iff, gt_iff_lt, ge_iff_le, ite_false, if_false, decide_eq_true_eq, Bool.not_eq_true', Bool.and_eq_true, Bool.or_eq_true, decide_eq_false_iff_not, Int.reduceToNat, mFor_B, forL_nil, forL_c, optF_some, optR_some, compL_nil, compL_c, nerr_ok, mComp_B, mYes, allD_l, anyD_l, bools_nil, bools_c, Option.map_some, opt_some, List.all_cons, List.all_nil, List.any_cons, List.any_nil, id_eq, mUnF, seqOf_l, seqOf_t, addD_l, szl, Nat.reduceLeDiff, wipeE, Int.reduceLT, Int.reduceLE, Int.reduceNeg, Int.reducePow, Int.reduceAdd, Int.reduceSub, Int.reduceMul, and_self, modD_p, fdivD_p, mulD_r, mulD_l, startE, List.map_cons, List.map_nil, List.cons_append, List.nil_append, decide_true]
  | 0, .tup xs, h => by unfold plainD at h; exact False.elim h
  | 0, .lst xs, h => by unfold plainD at h; exact False.elim h
  | n, .obj _ _, h => by unfold plainD at h; exact False.elim h
  | n, .scr _, h => by unfold plainD at h; exact False.elim h
  | n + 1, .tup xs, h => by
    unfold plainD at h
    exact like_seq _ _ xs (.inr rfl) h.1 fun x hx => like_same n x (plainL_get h.2 hx)
  | n + 1, .lst xs, h => by
    unfold plainD at h
    exact like_seq _ _ xs (.inl rfl) h.1 fun x hx => like_same n x (plainL_get h.2 hx)
theorem num_rng {n : Nat} {xs : List Int} (h : isNum n xs) (k : Nat) : 0 ≤ xs.getD k 0 ∧ xs.getD k 0 < 4096 := by
  rw [List.getD_eq_getElem?_getD]
  cases q : xs[k]? with
  | none => exact ⟨Int.le_refl 0, by decide⟩
  | some x => exact h.2 x (List.mem_of_getElem? q)
theorem idx_num {n : Nat} {xs : List Int} (h : isNum n xs) (i : Int) (hi : 0 ≤ i ∧ i < n) : idxD (.lst (xs.map D.int)) (.int i) = .ok (.int (xs.getD i.toNat 0)) := by
  obtain ⟨k, rfl⟩ : ∃ k : Nat, i = k := ⟨i.toNat, by omega⟩
  have hl : k < xs.length := by rw [h.1]; omega
  rw [idxD_lst, atI_nat _ _ (by rw [List.length_map]; omega), List.getD_eq_getElem?_getD, Int.toNat_natCast, List.getElem?_eq_getElem hl, List.getElem_map]
  rfl
end Cr
/-! the plain law of trains -/
namespace Cr
open PySem L2
theorem isiv_ev (a b : Int) : m_is_interval [.tup [.int a, .int b]] = .ok (.bl (decide (a ≤ b))) := by
  refine runD_rt (ρ := startE 1 [.tup [.int a, .int b]]) (ret_ok ?_)
  have e0 : idxD (.tup [.int a, .int b]) (.int 0) = .ok (.int a) := rfl
  have e1 : idxD (.tup [.int a, .int b]) (.int 1) = .ok (.int b) := rfl
  have e2 : lenD [.tup [.int a, .int b]] = .ok (.int 2) := rfl
  simp -implicitDefEqProofs only [mEnd, mSet, mSetO, mRet, mEx, mIfS_B, mTst, mBin, mUn, mC, mVar, mVarB, mArg, mCons, mNil, toE, mLst, mTup, bindF_ok, put, okS, bind_ok, tru_bl, mAnd_B, mOr_B, andB_ok, andB_f, andB_t, orB_ok, orB_f, orB_t, andVB_ok, andVB_f, andVB_t, orVB_ok, orVB_f, orVB_t, mNot, mAndV_B, mOrV_B, mNotV, mIf_B, mChain_B, mSeq_B, seqF_nx, seqF_rt, seqF_er, seqF_if, bind_if, bindF_if, runF_rt, runF_nx, runF_er, runF_if, runIF_nx, runIF_er, runIF_if, mRaise, startE, startI, List.map_cons, List.map_nil, List.cons_append, List.nil_append, List.length_cons, List.length_nil, Nat.reduceAdd, Nat.reduceSub, List.replicate_zero, List.replicate_succ, List.append_nil, gN, gSc, gS0, gQ, gT, gL, mPart, intO, mNo, List.getElem?_cons_zero, List.getElem?_cons_succ, List.set_cons_zero, List.set_cons_succ, addD_i, subD_i, negD_i, ltD_i, leD_i, gtD_i, geD_i, eqD_i, neD_i, eqD_b, neD_b, eqD_s, neD_s, absD_i, intD_i, lenD_lst, lenD_tup, lenD_scr, isNonD, notNonD, isiD, reduceIte, if_true, mFrz, frzE, appG_ok, mLm, if_pos, ite_true, max2D, min2D, decide_true, decide_false, Bool.not_true, Bool.not_false, Bool.false_eq_true, Bool.true_and, Bool.and_true, Bool.false_and, Bool.and_false, Bool.true_or, Bool.or_true, Bool.false_or, Bool.or_false, true_and, and_true, Bool.and_eq_false_iff, gt_iff_lt, ge_iff_le, ite_false, if_false, decide_eq_true_eq, Bool.not_eq_true', Bool.and_eq_true, Bool.or_eq_true, decide_eq_false_iff_not, Int.reduceToNat, mFor_B, forL_nil, forL_c, optF_some, optR_some, compL_nil, compL_c, nerr_ok, mComp_B, mYes, allD_l, anyD_l, bools_nil, bools_c, Option.map_some, opt_some, List.all_cons, List.all_nil, List.any_cons, List.any_nil, id_eq, mUnF, seqOf_l, seqOf_t, addD_l, szl, Nat.reduceLeDiff, wipeE, Int.reduceLT, Int.reduceLE, Int.reduceNeg, Int.reducePow, Int.reduceAdd, Int.reduceSub, Int.reduceMul, and_self, modD_p, fdivD_p, mulD_r, mulD_l, startE, List.map_cons, List.map_nil, List.cons_append, List.nil_append, e0, e1, e2]
def okTrain (l a b c d e f : Int) : Prop := (1 ≤ l ∧ l ≤ 100) ∧ (a ≤ b ∧ 0 ≤ a ∧ b ≤ 100000) ∧ (c ≤ d ∧ 1 ≤ c ∧ d ≤ 1000000) ∧ (1 ≤ e ∧ e ≤ 10000000) ∧ (1 ≤ f ∧ f ≤ 10000000)
theorem train_ev (l a b c d e f : Int) : (okTrain l a b c d e f → m_train_init [.int l, .tup [.int a, .int b], .tup [.int c, .int d], .int e, .int f] = .ok [.int l, .tup [.int a, .int b], .tup [.int c, .int d], .int e, .int f]) ∧ (¬ okTrain l a b c d e f → m_train_init [.int l, .tup [.int a, .int b], .tup [.int c, .int d], .int e, .int f] = .err (.own 3)) := by
  have e0 : ∀ a b, idxD (.tup [.int a, .int b]) (.int 0) = .ok (.int a) := fun _ _ => rfl
  have e1 : ∀ a b, idxD (.tup [.int a, .int b]) (.int 1) = .ok (.int b) := fun _ _ => rfl
  have et : ∀ ρ : Env, ρ = [.oo 21 [], .v (.d (.int l)), .v (.d (.tup [.int a, .int b])), .v (.d (.tup [.int c, .int d])), .v (.d (.int e)), .v (.d (.int f))] → runIF 21 ((mSeq (mSelfSet 0 21 "length" (mVar 1)) (mSeq (mSelfSet 0 21 "friction" (mVar 2)) (mSeq (mSelfSet 0 21 "brake" (mVar 3)) (mSeq (mSelfSet 0 21 "lift" (mVar 4)) (mSelfSet 0 21 "drive" (mVar 5)))))) ρ) = .ok [.int l, .tup [.int a, .int b], .tup [.int c, .int d], .int e, .int f] := fun ρ h => by subst h; rfl
  unfold m_train_init b_train_init okTrain
  rw [runI_B]
  generalize (mSeq (mSelfSet 0 21 "length" (mVar 1)) (mSeq (mSelfSet 0 21 "friction" (mVar 2)) (mSeq (mSelfSet 0 21 "brake" (mVar 3)) (mSeq (mSelfSet 0 21 "lift" (mVar 4)) (mSelfSet 0 21 "drive" (mVar 5)))))) = tl at et ⊢
  have et := et _ rfl
  simp -implicitDefEqProofs only [mEnd, mSet, mSetO, mRet, mEx, mIfS_B, mTst, mBin, mUn, mC, mVar, mVarB, mArg, mCons, mNil, toE, mLst, mTup, bindF_ok, put, okS, bind_ok, tru_bl, mAnd_B, mOr_B, andB_ok, andB_f, andB_t, orB_ok, orB_f, orB_t, andVB_ok, andVB_f, andVB_t, orVB_ok, orVB_f, orVB_t, mNot, mAndV_B, mOrV_B, mNotV, mIf_B, mChain_B, mSeq_B, seqF_nx, seqF_rt, seqF_er, seqF_if, bind_if, bindF_if, runF_rt, runF_nx, runF_er, runF_if, runIF_nx, runIF_er, runIF_if, mRaise, startE, startI, List.map_cons, List.map_nil, List.cons_append, List.nil_append, List.length_cons, List.length_nil, Nat.reduceAdd, Nat.reduceSub, List.replicate_zero, List.replicate_succ, List.append_nil, gN, gSc, gS0, gQ, gT, gL, mPart, intO, mNo, List.getElem?_cons_zero, List.getElem?_cons_succ, List.set_cons_zero, List.set_cons_succ, addD_i, subD_i, negD_i, ltD_i, leD_i, gtD_i, geD_i, eqD_i, neD_i, eqD_b, neD_b, eqD_s, neD_s, absD_i, intD_i, lenD_lst, lenD_tup, lenD_scr, isNonD, notNonD, isiD, reduceIte, if_true, mFrz, frzE, appG_ok, mLm, if_pos, ite_true, max2D, min2D, decide_true, decide_false, Bool.not_true, Bool.not_false, Bool.false_eq_true, Bool.true_and, Bool.and_true, Bool.false_and, Bool.and_false, Bool.true_or, Bool.or_true, Bool.false_or, Bool.or_false, true_and, and_true, Bool.and_eq_false_iff, gt_iff_lt, ge_iff_le, ite_false, if_false, decide_eq_true_eq, Bool.not_eq_true', Bool.and_eq_true, Bool.or_eq_true, decide_eq_false_iff_not, Int.reduceToNat, mFor_B, forL_nil, forL_c, optF_some, optR_some, compL_nil, compL_c, nerr_ok, mComp_B, mYes, allD_l, anyD_l, bools_nil, bools_c, Option.map_some, opt_some, List.all_cons, List.all_nil, List.any_cons, List.any_nil, id_eq, mUnF, seqOf_l, seqOf_t, addD_l, szl, Nat.reduceLeDiff, wipeE, Int.reduceLT, Int.reduceLE, Int.reduceNeg, Int.reducePow, Int.reduceAdd, Int.reduceSub, Int.reduceMul, and_self, modD_p, fdivD_p, mulD_r, mulD_l, e0, e1, isiv_ev, et]
  constructor
  · intro h
    rw [if_neg (by omega), if_neg (by omega), if_neg (by omega), if_neg (by omega)]
  · intro h
    repeat' split
    all_goals first | rfl | (exfalso; omega)
/-- a script's fields as a list of data -/
def dTrain (l a b c d e f : Int) : List D := [.int l, .tup [.int a, .int b], .tup [.int c, .int d], .int e, .int f]
theorem made_ev (l a b c d e f : Int) : (okTrain l a b c d e f → m_law_made [.lst (dTrain l a b c d e f)] = .ok (.bl true)) ∧ (¬ okTrain l a b c d e f → m_law_made [.lst (dTrain l a b c d e f)] = .ok (.bl false)) := by
  have i0 : idxD (.lst (dTrain l a b c d e f)) (.int 0) = .ok (.int l) := rfl
  have i1 : idxD (.lst (dTrain l a b c d e f)) (.int 1) = .ok (.tup [.int a, .int b]) := rfl
  have i2 : idxD (.lst (dTrain l a b c d e f)) (.int 2) = .ok (.tup [.int c, .int d]) := rfl
  have i3 : idxD (.lst (dTrain l a b c d e f)) (.int 3) = .ok (.int e) := rfl
  have i4 : idxD (.lst (dTrain l a b c d e f)) (.int 4) = .ok (.int f) := rfl
  obtain ⟨t1, t2⟩ := train_ev l a b c d e f
  unfold m_law_made b_law_made
  constructor
  · intro h
    rw [runD_B]
    simp -implicitDefEqProofs only [mEnd, mSet, mSetO, mRet, mEx, mIfS_B, mTst, mBin, mUn, mC, mVar, mVarB, mArg, mCons, mNil, toE, mLst, mTup, bindF_ok, put, okS, bind_ok, tru_bl, mAnd_B, mOr_B, andB_ok, andB_f, andB_t, orB_ok, orB_f, orB_t, andVB_ok, andVB_f, andVB_t, orVB_ok, orVB_f, orVB_t, mNot, mAndV_B, mOrV_B, mNotV, mIf_B, mChain_B, mSeq_B, seqF_nx, seqF_rt, seqF_er, seqF_if, bind_if, bindF_if, runF_rt, runF_nx, runF_er, runF_if, runIF_nx, runIF_er, runIF_if, mRaise, startE, startI, List.map_cons, List.map_nil, List.cons_append, List.nil_append, List.length_cons, List.length_nil, Nat.reduceAdd, Nat.reduceSub, List.replicate_zero, List.replicate_succ, List.append_nil, gN, gSc, gS0, gQ, gT, gL, mPart, intO, mNo, List.getElem?_cons_zero, List.getElem?_cons_succ, List.set_cons_zero, List.set_cons_succ, addD_i, subD_i, negD_i, ltD_i, leD_i, gtD_i, geD_i, eqD_i, neD_i, eqD_b, neD_b, eqD_s, neD_s, absD_i, intD_i, lenD_lst, lenD_tup, lenD_scr, isNonD, notNonD, isiD, reduceIte, if_true, mFrz, frzE, appG_ok, mLm, if_pos, ite_true, max2D, min2D, decide_true, decide_false, Bool.not_true, Bool.not_false, Bool.false_eq_true, Bool.true_and, Bool.and_true, Bool.false_and, Bool.and_false, Bool.true_or, Bool.or_true, Bool.false_or, Bool.or_false, true_and, and_true, Bool.and_eq_false_iff, gt_iff_lt, ge_iff_le, ite_false, if_false, decide_eq_true_eq, Bool.not_eq_true', Bool.and_eq_true, Bool.or_eq_true, decide_eq_false_iff_not, Int.reduceToNat, mFor_B, forL_nil, forL_c, optF_some, optR_some, compL_nil, compL_c, nerr_ok, mComp_B, mYes, allD_l, anyD_l, bools_nil, bools_c, Option.map_some, opt_some, List.all_cons, List.all_nil, List.any_cons, List.any_nil, id_eq, mUnF, seqOf_l, seqOf_t, addD_l, szl, Nat.reduceLeDiff, wipeE, Int.reduceLT, Int.reduceLE, Int.reduceNeg, Int.reducePow, Int.reduceAdd, Int.reduceSub, Int.reduceMul, and_self, modD_p, fdivD_p, mulD_r, mulD_l, mTry, mMk, i0, i1, i2, i3, i4, t1 h]
  · intro h
    rw [runD_B]
    simp -implicitDefEqProofs only [mEnd, mSet, mSetO, mRet, mEx, mIfS_B, mTst, mBin, mUn, mC, mVar, mVarB, mArg, mCons, mNil, toE, mLst, mTup, bindF_ok, put, okS, bind_ok, tru_bl, mAnd_B, mOr_B, andB_ok, andB_f, andB_t, orB_ok, orB_f, orB_t, andVB_ok, andVB_f, andVB_t, orVB_ok, orVB_f, orVB_t, mNot, mAndV_B, mOrV_B, mNotV, mIf_B, mChain_B, mSeq_B, seqF_nx, seqF_rt, seqF_er, seqF_if, bind_if, bindF_if, runF_rt, runF_nx, runF_er, runF_if, runIF_nx, runIF_er, runIF_if, mRaise, startE, startI, List.map_cons, List.map_nil, List.cons_append, List.nil_append, List.length_cons, List.length_nil, Nat.reduceAdd, Nat.reduceSub, List.replicate_zero, List.replicate_succ, List.append_nil, gN, gSc, gS0, gQ, gT, gL, mPart, intO, mNo, List.getElem?_cons_zero, List.getElem?_cons_succ, List.set_cons_zero, List.set_cons_succ, addD_i, subD_i, negD_i, ltD_i, leD_i, gtD_i, geD_i, eqD_i, neD_i, eqD_b, neD_b, eqD_s, neD_s, absD_i, intD_i, lenD_lst, lenD_tup, lenD_scr, isNonD, notNonD, isiD, reduceIte, if_true, mFrz, frzE, appG_ok, mLm, if_pos, ite_true, max2D, min2D, decide_true, decide_false, Bool.not_true, Bool.not_false, Bool.false_eq_true, Bool.true_and, Bool.and_true, Bool.false_and, Bool.and_false, Bool.true_or, Bool.or_true, Bool.false_or, Bool.or_false, true_and, and_true, Bool.and_eq_false_iff, gt_iff_lt, ge_iff_le, ite_false, if_false, decide_eq_true_eq, Bool.not_eq_true', Bool.and_eq_true, Bool.or_eq_true, decide_eq_false_iff_not, Int.reduceToNat, mFor_B, forL_nil, forL_c, optF_some, optR_some, compL_nil, compL_c, nerr_ok, mComp_B, mYes, allD_l, anyD_l, bools_nil, bools_c, Option.map_some, opt_some, List.all_cons, List.all_nil, List.any_cons, List.any_nil, id_eq, mUnF, seqOf_l, seqOf_t, addD_l, szl, Nat.reduceLeDiff, wipeE, Int.reduceLT, Int.reduceLE, Int.reduceNeg, Int.reducePow, Int.reduceAdd, Int.reduceSub, Int.reduceMul, and_self, modD_p, fdivD_p, mulD_r, mulD_l, mTry, mMk, i0, i1, i2, i3, i4, t2 h, bind_err, bindF_err, Exc.cl, List.mem_singleton, nerrF]
theorem drawn_ev {xs : List Int} (hx : isNum 12 xs) : ∃ l a b c d e f : Int, okTrain l a b c d e f ∧ m_law_drawn_train [.lst (xs.map D.int)] = .ok (.lst [.int l, .tup [.int a, .int b], .tup [.int c, .int d], .int e, .int f]) := by
  have hi : ∀ i : Int, 0 ≤ i ∧ i < 12 → idxD (.lst (xs.map D.int)) (.int i) = .ok (.int (xs.getD i.toNat 0)) := fun i h => idx_num hx i h
  refine ⟨1 + xs.getD 2 0 % 4, xs.getD 0 0 % 400, xs.getD 0 0 % 400 + xs.getD 3 0 % 900, 5000 + 73 * xs.getD 1 0, 5000 + 73 * xs.getD 1 0 + 10 * xs.getD 4 0, 1 + 30 * xs.getD 5 0, 1 + 20 * xs.getD 6 0, ?_, ?_⟩
  · unfold okTrain
    have := num_rng hx 1
    have := num_rng hx 4
    have := num_rng hx 5
    have := num_rng hx 6
    omega
  · unfold m_law_drawn_train b_law_drawn_train
    rw [runD_B]
    simp -implicitDefEqProofs only [mEnd, mSet, mSetO, mRet, mEx, mIfS_B, mTst, mBin, mUn, mC, mVar, mVarB, mArg, mCons, mNil, toE, mLst, mTup, bindF_ok, put, okS, bind_ok, tru_bl, mAnd_B, mOr_B, andB_ok, andB_f, andB_t, orB_ok, orB_f, orB_t, andVB_ok, andVB_f, andVB_t, orVB_ok, orVB_f, orVB_t, mNot, mAndV_B, mOrV_B, mNotV, mIf_B, mChain_B, mSeq_B, seqF_nx, seqF_rt, seqF_er, seqF_if, bind_if, bindF_if, runF_rt, runF_nx, runF_er, runF_if, runIF_nx, runIF_er, runIF_if, mRaise, startE, startI, List.map_cons, List.map_nil, List.cons_append, List.nil_append, List.length_cons, List.length_nil, Nat.reduceAdd, Nat.reduceSub, List.replicate_zero, List.replicate_succ, List.append_nil, gN, gSc, gS0, gQ, gT, gL, mPart, intO, mNo, List.getElem?_cons_zero, List.getElem?_cons_succ, List.set_cons_zero, List.set_cons_succ, addD_i, subD_i, negD_i, ltD_i, leD_i, gtD_i, geD_i, eqD_i, neD_i, eqD_b, neD_b, eqD_s, neD_s, absD_i, intD_i, lenD_lst, lenD_tup, lenD_scr, isNonD, notNonD, isiD, reduceIte, if_true, mFrz, frzE, appG_ok, mLm, if_pos, ite_true, max2D, min2D, decide_true, decide_false, Bool.not_true, Bool.not_false, Bool.false_eq_true, Bool.true_and, Bool.and_true, Bool.false_and, Bool.and_false, Bool.true_or, Bool.or_true, Bool.false_or, Bool.or_false, true_and, and_true, Bool.and_eq_false_iff, gt_iff_lt, ge_iff_le, ite_false, if_false, decide_eq_true_eq, Bool.not_eq_true', Bool.and_eq_true, Bool.or_eq_true, decide_eq_false_iff_not, Int.reduceToNat, mFor_B, forL_nil, forL_c, optF_some, optR_some, compL_nil, compL_c, nerr_ok, mComp_B, mYes, allD_l, anyD_l, bools_nil, bools_c, Option.map_some, opt_some, List.all_cons, List.all_nil, List.any_cons, List.any_nil, id_eq, mUnF, seqOf_l, seqOf_t, addD_l, szl, Nat.reduceLeDiff, wipeE, Int.reduceLT, Int.reduceLE, Int.reduceNeg, Int.reducePow, Int.reduceAdd, Int.reduceSub, Int.reduceMul, and_self, modD_p, fdivD_p, mulD_r, mulD_l, hi]
theorem k05_law (ns : List Int) : m_law [.scr ns] = .ok (.bl true) := by
  obtain ⟨c0, hc0, e0⟩ := cell_ev ns 0
  obtain ⟨c1, hc1, e1⟩ := cell_ev ns 1
  obtain ⟨xs, hx, ed⟩ := draws_ev c0 12 (by decide)
  obtain ⟨l, a, b, c, d, e, f, hok, et⟩ := drawn_ev hx
  have e0 : m_law_cell [.scr ns, .int 0] = .ok (.int c0) := e0
  have e1 : m_law_cell [.scr ns, .int 1] = .ok (.int c1) := e1
  have ed : m_law_draws [.int c0, .int 12] = .ok (.lst (xs.map D.int)) := ed
  have hi : ∀ i : Int, 0 ≤ i ∧ i < 12 → idxD (.lst (xs.map D.int)) (.int i) = .ok (.int (xs.getD i.toNat 0)) := fun i h => idx_num hx i h
  obtain ⟨t1, _⟩ := train_ev l a b c d e f
  have t1 := t1 hok
  have i0 : idxD (.lst [.int l, .tup [.int a, .int b], .tup [.int c, .int d], .int e, .int f]) (.int 0) = .ok (.int l) := rfl
  have i1 : idxD (.lst [.int l, .tup [.int a, .int b], .tup [.int c, .int d], .int e, .int f]) (.int 1) = .ok (.tup [.int a, .int b]) := rfl
  have i2 : idxD (.lst [.int l, .tup [.int a, .int b], .tup [.int c, .int d], .int e, .int f]) (.int 2) = .ok (.tup [.int c, .int d]) := rfl
  have i3 : idxD (.lst [.int l, .tup [.int a, .int b], .tup [.int c, .int d], .int e, .int f]) (.int 3) = .ok (.int e) := rfl
  have i4 : idxD (.lst [.int l, .tup [.int a, .int b], .tup [.int c, .int d], .int e, .int f]) (.int 4) = .ok (.int f) := rfl
  have f0 : ∀ x0 x1 x2 x3 x4, fldD 21 0 (.obj 21 [x0, x1, x2, x3, x4]) = .ok x0 := fun _ _ _ _ _ => rfl
  have f1 : ∀ x0 x1 x2 x3 x4, fldD 21 1 (.obj 21 [x0, x1, x2, x3, x4]) = .ok x1 := fun _ _ _ _ _ => rfl
  have f2 : ∀ x0 x1 x2 x3 x4, fldD 21 2 (.obj 21 [x0, x1, x2, x3, x4]) = .ok x2 := fun _ _ _ _ _ => rfl
  have f3 : ∀ x0 x1 x2 x3 x4, fldD 21 3 (.obj 21 [x0, x1, x2, x3, x4]) = .ok x3 := fun _ _ _ _ _ => rfl
  have f4 : ∀ x0 x1 x2 x3 x4, fldD 21 4 (.obj 21 [x0, x1, x2, x3, x4]) = .ok x4 := fun _ _ _ _ _ => rfl
  have hlk : m_law_like 8 [.lst [.int l, .tup [.int a, .int b], .tup [.int c, .int d], .int e, .int f], .lst [.int l, .tup [.int a, .int b], .tup [.int c, .int d], .int e, .int f]] = .ok (.bl true) := like_same 7 _ (by simp [plainD, plainL])
  have ep : powD (.int 10) (.int 30) = .ok (.int 1000000000000000000000000000000) := powD_p 10 30 (by decide) (by decide)
  obtain ⟨g, hge, hg⟩ : ∃ g, c1 % 1000000000000000000000000000000 = g ∧ 0 ≤ g := ⟨_, rfl, by omega⟩
  obtain ⟨w, hwe, hw⟩ : ∃ w, xs.getD 8 0 % 1000 = w ∧ 0 ≤ w ∧ w < 1000 := ⟨_, rfl, by omega, by omega⟩
  unfold okTrain at hok
  have q0 : m_law_made [.lst [.int 1, .tup [.int 0, .int 0], .tup [.int 1, .int 1], .int 1, .int 1]] = .ok (.bl true) := (made_ev 1 0 0 1 1 1 1).1 (by unfold okTrain; omega)
  have q1 : m_law_made [.lst [.int 100, .tup [.int 100000, .int 100000], .tup [.int 1000000, .int 1000000], .int 10000000, .int 10000000]] = .ok (.bl true) := (made_ev 100 100000 100000 1000000 1000000 10000000 10000000).1 (by unfold okTrain; omega)
  have q2 : m_law_made [.lst [.int 5, .tup [.int w, .int 100000], .tup [.int (1 + w), .int 1000000], .int 1, .int 10000000]] = .ok (.bl true) := (made_ev 5 w 100000 (1 + w) 1000000 1 10000000).1 (by unfold okTrain; omega)
  have q3 : m_law_made [.lst [.int (0 - g), .tup [.int a, .int b], .tup [.int c, .int d], .int e, .int f]] = .ok (.bl false) := (made_ev (0 - g) a b c d e f).2 (by unfold okTrain; omega)
  have q4 : m_law_made [.lst [.int (101 + g), .tup [.int a, .int b], .tup [.int c, .int d], .int e, .int f]] = .ok (.bl false) := (made_ev (101 + g) a b c d e f).2 (by unfold okTrain; omega)
  have q5 : m_law_made [.lst [.int l, .tup [.int (w + 1), .int w], .tup [.int c, .int d], .int e, .int f]] = .ok (.bl false) := (made_ev l (w + 1) w c d e f).2 (by unfold okTrain; omega)
  have q6 : m_law_made [.lst [.int l, .tup [.int (-1 - w), .int 5], .tup [.int c, .int d], .int e, .int f]] = .ok (.bl false) := (made_ev l (-1 - w) 5 c d e f).2 (by unfold okTrain; omega)
  have q7 : m_law_made [.lst [.int l, .tup [.int w, .int (100001 + g)], .tup [.int c, .int d], .int e, .int f]] = .ok (.bl false) := (made_ev l w (100001 + g) c d e f).2 (by unfold okTrain; omega)
  have q8 : m_law_made [.lst [.int l, .tup [.int a, .int b], .tup [.int 0, .int 5], .int e, .int f]] = .ok (.bl false) := (made_ev l a b 0 5 e f).2 (by unfold okTrain; omega)
  have q9 : m_law_made [.lst [.int l, .tup [.int a, .int b], .tup [.int (w + 2), .int (w + 1)], .int e, .int f]] = .ok (.bl false) := (made_ev l a b (w + 2) (w + 1) e f).2 (by unfold okTrain; omega)
  have q10 : m_law_made [.lst [.int l, .tup [.int a, .int b], .tup [.int 5, .int (1000001 + g)], .int e, .int f]] = .ok (.bl false) := (made_ev l a b 5 (1000001 + g) e f).2 (by unfold okTrain; omega)
  have q11 : m_law_made [.lst [.int l, .tup [.int a, .int b], .tup [.int c, .int d], .int (0 - g), .int f]] = .ok (.bl false) := (made_ev l a b c d (0 - g) f).2 (by unfold okTrain; omega)
  have q12 : m_law_made [.lst [.int l, .tup [.int a, .int b], .tup [.int c, .int d], .int (10000001 + g), .int f]] = .ok (.bl false) := (made_ev l a b c d (10000001 + g) f).2 (by unfold okTrain; omega)
  have q13 : m_law_made [.lst [.int l, .tup [.int a, .int b], .tup [.int c, .int d], .int e, .int (0 - g)]] = .ok (.bl false) := (made_ev l a b c d e (0 - g)).2 (by unfold okTrain; omega)
  have q14 : m_law_made [.lst [.int l, .tup [.int a, .int b], .tup [.int c, .int d], .int e, .int (10000001 + g)]] = .ok (.bl false) := (made_ev l a b c d e (10000001 + g)).2 (by unfold okTrain; omega)
  have cl0 : cutD (.lst [.int l, .tup [.int a, .int b], .tup [.int c, .int d], .int e, .int f]) none (some 0) = .ok (.lst []) := rfl
  have cr0 : cutD (.lst [.int l, .tup [.int a, .int b], .tup [.int c, .int d], .int e, .int f]) (some 1) none = .ok (.lst [.tup [.int a, .int b], .tup [.int c, .int d], .int e, .int f]) := rfl
  have cl1 : cutD (.lst [.int l, .tup [.int a, .int b], .tup [.int c, .int d], .int e, .int f]) none (some 1) = .ok (.lst [.int l]) := rfl
  have cr1 : cutD (.lst [.int l, .tup [.int a, .int b], .tup [.int c, .int d], .int e, .int f]) (some 2) none = .ok (.lst [.tup [.int c, .int d], .int e, .int f]) := rfl
  have cl2 : cutD (.lst [.int l, .tup [.int a, .int b], .tup [.int c, .int d], .int e, .int f]) none (some 2) = .ok (.lst [.int l, .tup [.int a, .int b]]) := rfl
  have cr2 : cutD (.lst [.int l, .tup [.int a, .int b], .tup [.int c, .int d], .int e, .int f]) (some 3) none = .ok (.lst [.int e, .int f]) := rfl
  have cl3 : cutD (.lst [.int l, .tup [.int a, .int b], .tup [.int c, .int d], .int e, .int f]) none (some 3) = .ok (.lst [.int l, .tup [.int a, .int b], .tup [.int c, .int d]]) := rfl
  have cr3 : cutD (.lst [.int l, .tup [.int a, .int b], .tup [.int c, .int d], .int e, .int f]) (some 4) none = .ok (.lst [.int f]) := rfl
  have cl4 : cutD (.lst [.int l, .tup [.int a, .int b], .tup [.int c, .int d], .int e, .int f]) none (some 4) = .ok (.lst [.int l, .tup [.int a, .int b], .tup [.int c, .int d], .int e]) := rfl
  have cr4 : cutD (.lst [.int l, .tup [.int a, .int b], .tup [.int c, .int d], .int e, .int f]) (some 5) none = .ok (.lst []) := rfl
  unfold m_law b_law
  rw [runD_B]
  simp -implicitDefEqProofs only [mEnd, mSet, mSetO, mRet, mEx, mIfS_B, mTst, mBin, mUn, mC, mVar, mVarB, mArg, mCons, mNil, toE, mLst, mTup, bindF_ok, put, okS, bind_ok, tru_bl, mAnd_B, mOr_B, andB_ok, andB_f, andB_t, orB_ok, orB_f, orB_t, andVB_ok, andVB_f, andVB_t, orVB_ok, orVB_f, orVB_t, mNot, mAndV_B, mOrV_B, mNotV, mIf_B, mChain_B, mSeq_B, seqF_nx, seqF_rt, seqF_er, seqF_if, bind_if, bindF_if, runF_rt, runF_nx, runF_er, runF_if, runIF_nx, runIF_er, runIF_if, mRaise, startE, startI, List.map_cons, List.map_nil, List.cons_append, List.nil_append, List.length_cons, List.length_nil, Nat.reduceAdd, Nat.reduceSub, List.replicate_zero, List.replicate_succ, List.append_nil, gN, gSc, gS0, gQ, gT, gL, mPart, intO, mNo, List.getElem?_cons_zero, List.getElem?_cons_succ, List.set_cons_zero, List.set_cons_succ, addD_i, subD_i, negD_i, ltD_i, leD_i, gtD_i, geD_i, eqD_i, neD_i, eqD_b, neD_b, eqD_s, neD_s, absD_i, intD_i, lenD_lst, lenD_tup, lenD_scr, isNonD, notNonD, isiD, reduceIte, if_true, mFrz, frzE, appG_ok, mLm, if_pos, ite_true, max2D, min2D, decide_true, decide_false, Bool.not_true, Bool.not_false, Bool.false_eq_true, Bool.true_and, Bool.and_true, Bool.false_and, Bool.and_false, Bool.true_or, Bool.or_true, Bool.false_or, Bool.or_false, true_and, and_true, Bool.and_eq_false_iff, gt_iff_lt, ge_iff_le, ite_false, if_false, decide_eq_true_eq, Bool.not_eq_true', Bool.and_eq_true, Bool.or_eq_true, decide_eq_false_iff_not, Int.reduceToNat, mFor_B, forL_nil, forL_c, optF_some, optR_some, compL_nil, compL_c, nerr_ok, mComp_B, mYes, allD_l, anyD_l, bools_nil, bools_c, Option.map_some, opt_some, List.all_cons, List.all_nil, List.any_cons, List.any_nil, id_eq, mUnF, seqOf_l, seqOf_t, addD_l, szl, Nat.reduceLeDiff, wipeE, Int.reduceLT, Int.reduceLE, Int.reduceNeg, Int.reducePow, Int.reduceAdd, Int.reduceSub, Int.reduceMul, and_self, modD_p, fdivD_p, mulD_r, mulD_l, mMk, e0, e1, ed, hi, et, t1, i0, i1, i2, i3, i4, f0, f1, f2, f3, f4, hlk, ep, hge, hwe, mSl, q0, q1, q2, q3, q4, q5, q6, q7, q8, q9, q10, q11, q12, q13, q14, cl0, cr0, cl1, cr1, cl2, cr2, cl3, cr3, cl4, cr4]
end Cr
open PySem PySem.Spec PyProof.Rows
theorem PySem.Challenge.cw_coastersafe_k05_trains_holds : PySem.Challenge.rw_coastersafe_k05_trains.Holds := by
  exact Cr.finish fun ns _ => Cr.k05_law ns
