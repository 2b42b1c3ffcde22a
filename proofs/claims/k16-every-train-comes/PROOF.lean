import PyProof.Rows.All
import Wide.All
import OpenK.AllK
import Wide.FinOn
import HandS.ForMost
import HandS.ForExc
import HandS.Wide
import HandS.Zip
import HandS.More
import HandS.Flow
import HandS.IsInst
import HandS.Style
import HandS.HeadHook2
import HandS.HeadEnd
import HandS.Head0
import HandS.Head1
import HandS.Head2
import HandS.Defaults
import HandS.TupLe
import HandS.WideBits
import PySem.Challenge.RW_coastersafe_k16_whole_every_train_comes
set_option Elab.async false
set_option linter.all false
set_option maxRecDepth 100000
set_option maxHeartbeats 0
/-! Core, part 1: plain data, what represents it in the heap, the frame's slots. -/
namespace Cr
open PySem PySem.Spec PyProof.Rows L2
/-- plain data -/
inductive D where
  | non
  | bl (b : Bool)
  | int (i : Int)
  | str (x : Str)
  | tup (xs : List D)
  | lst (xs : List D)
  | obj (c : Nat) (xs : List D)
  | scr (ns : List Int)
/-- the classes: where they stand, their fields in the order of __init__ -/
structure CT where
  addr : Nat → Addr
/-- the program's classes by number: their fields in the order of __init__ -/
def flds : Nat → List Str
  | 20 => ["segments", "metres", "begins", "brakes", "heights"]
  | 21 => ["length", "friction", "brake", "lift", "drive"]
  | 22 => ["ways", "over", "trains"]
  | 23 => ["inputs", "bits", "timers", "order", "statements", "limits", "starts", "slots"]
  | _ => []
/-- the one field of an error with an __init__ -/
def low : Nat → Str
  | 5 => "line"
  | 7 => "name"
  | 8 => "limit"
  | _ => ""
structure Gx where
  K : PySem.W.Frag
  T : CT
def KTup (K : PySem.W.Frag) (a : Addr) (xs : List V) : Prop :=
  ∃ (o : Obj) (its : Array Value) (n : Nat), K.lookup a = some o ∧ o.cls = .type "tuple" ∧ o.data = .seq its n ∧ its.size ≤ sizeLine ∧ Vals xs its.toList
def KLst (K : PySem.W.Frag) (a : Addr) (xs : List V) : Prop :=
  ∃ (o : Obj) (its : Array Value) (n : Nat), K.lookup a = some o ∧ o.cls = .type "list" ∧ o.dict = none ∧ o.data = .seq its n ∧ its.size ≤ sizeLine ∧ Vals xs its.toList
mutual
/-- v stands for the data d, nothing of it lies at a place of Av -/
def Rep (G : Gx) (H : Hp) (Av : Addr → Prop) : D → V → Prop
  | .non, v => v = .non
  | .bl b, v => v = .bl b
  | .int i, v => v = .int i
  | .str x, v => v = .str x
  | .tup ds, v => ∃ a vs, v = .ref a ∧ ((H a = some (.tup vs) ∧ ¬ Av a) ∨ KTup G.K a vs) ∧ RepL G H Av ds vs
  | .lst ds, v => ∃ a vs, v = .ref a ∧ (H a = some (.lst vs) ∧ ¬ Av a) ∧ RepL G H Av ds vs
  | .obj c ds, v => ∃ a dx vs, v = .ref a ∧ (H a = some (.ins (G.T.addr c) dx ((flds c).zip vs)) ∧ ¬ Av a) ∧ vs.length = (flds c).length ∧ RepL G H Av ds vs
  | .scr ns, v => ∃ a, v = .ref a ∧ ((Rd H a (.lst (ns.map V.int)) ∧ ¬ Av a) ∨ KLst G.K a (ns.map V.int))
def RepL (G : Gx) (H : Hp) (Av : Addr → Prop) : List D → List V → Prop
  | [], vs => vs = []
  | d :: ds, vs => ∃ v vr, vs = v :: vr ∧ Rep G H Av d v ∧ RepL G H Av ds vr
end
structure Kept (H H' : Hp) (Av Av' : Addr → Prop) : Prop where
  keep : ∀ a o, H a = some o → ¬ Av a → H' a = some o
  av : ∀ a, Av' a → Av a ∨ H a = none
theorem Kept.no {H H' : Hp} {Av Av' : Addr → Prop} (k : Kept H H' Av Av') {a : Addr} {o : HO} (h : H a = some o) (n : ¬ Av a) : ¬ Av' a := fun z => by
  rcases k.av a z with q | q
  · exact n q
  · rw [h] at q; cases q
theorem Kept.trans {H H1 H2 : Hp} {A A1 A2 : Addr → Prop} (k : Kept H H1 A A1) (k2 : Kept H1 H2 A1 A2) : Kept H H2 A A2 := by
  refine ⟨fun a o h n => k2.keep a o (k.keep a o h n) (k.no h n), fun a z => ?_⟩
  rcases k2.av a z with q | q
  · exact k.av a q
  · by_cases hA : A a
    · exact .inl hA
    · cases e : H a with
      | none => exact .inr rfl
      | some o => rw [k.keep a o e hA] at q; cases q
mutual
theorem Rep.mono {G : Gx} {H H' : Hp} {Av Av' : Addr → Prop} (k : Kept H H' Av Av') : ∀ (d : D) {v : V}, Rep G H Av d v → Rep G H' Av' d v
  | .non, v, h => h
  | .bl b, v, h => h
  | .int i, v, h => h
  | .str x, v, h => h
  | .tup ds, v, h => by
    obtain ⟨a, vs, e, h1, h2⟩ := h
    refine ⟨a, vs, e, ?_, RepL.mono k ds h2⟩
    rcases h1 with ⟨h1, n⟩ | h1
    · exact .inl ⟨k.keep _ _ h1 n, k.no h1 n⟩
    · exact .inr h1
  | .lst ds, v, h => by
    obtain ⟨a, vs, e, ⟨h1, n⟩, h2⟩ := h
    exact ⟨a, vs, e, ⟨k.keep _ _ h1 n, k.no h1 n⟩, RepL.mono k ds h2⟩
  | .obj c ds, v, h => by
    obtain ⟨a, dx, vs, e, ⟨h1, n⟩, hl, h2⟩ := h
    exact ⟨a, dx, vs, e, ⟨k.keep _ _ h1 n, k.no h1 n⟩, hl, RepL.mono k ds h2⟩
  | .scr ns, v, h => by
    obtain ⟨a, e, h1⟩ := h
    refine ⟨a, e, ?_⟩
    rcases h1 with ⟨h1 | ⟨o, h1⟩, n⟩ | h1
    · exact .inl ⟨.inl (k.keep _ _ h1 n), k.no h1 n⟩
    · exact .inl ⟨.inr ⟨o, k.keep _ _ h1 n⟩, k.no h1 n⟩
    · exact .inr h1
theorem RepL.mono {G : Gx} {H H' : Hp} {Av Av' : Addr → Prop} (k : Kept H H' Av Av') : ∀ (ds : List D) {vs : List V}, RepL G H Av ds vs → RepL G H' Av' ds vs
  | [], vs, h => h
  | d :: ds, vs, h => by
    obtain ⟨v, vr, e, h1, h2⟩ := h
    exact ⟨v, vr, e, Rep.mono k d h1, RepL.mono k ds h2⟩
end
section
variable {G : Gx} {H H' : Hp} {Av Av' : Addr → Prop}
theorem RepL.length : ∀ {ds : List D} {vs : List V}, RepL G H Av ds vs → vs.length = ds.length
  | [], _, h => by
    have e : _ = [] := h
    rw [e]; rfl
  | d :: ds, _, h => by
    obtain ⟨v, vr, e, _, h2⟩ := h
    rw [e, List.length_cons, List.length_cons, RepL.length h2]
theorem RepL.nil_iff {vs : List V} : RepL G H Av [] vs ↔ vs = [] := Iff.rfl
theorem RepL.cons {d : D} {ds : List D} {v : V} {vs : List V} (h1 : Rep G H Av d v) (h2 : RepL G H Av ds vs) : RepL G H Av (d :: ds) (v :: vs) := ⟨v, vs, rfl, h1, h2⟩
theorem RepL.get : ∀ {ds : List D} {vs : List V} {i : Nat} {d : D}, RepL G H Av ds vs → ds[i]? = some d → ∃ v, vs[i]? = some v ∧ Rep G H Av d v
  | [], _, _, _, _, e => by simp at e
  | d :: ds, _, 0, _, h, e => by
    obtain ⟨v, vr, rfl, h1, _⟩ := h
    simp at e
    subst e
    exact ⟨v, rfl, h1⟩
  | d :: ds, _, i + 1, _, h, e => by
    obtain ⟨v, vr, rfl, _, h2⟩ := h
    obtain ⟨w, e1, e2⟩ := RepL.get (i := i) h2 (by simpa using e)
    exact ⟨w, by simpa using e1, e2⟩
theorem RepL.getV : ∀ {ds : List D} {vs : List V} {i : Nat} {v : V}, RepL G H Av ds vs → vs[i]? = some v → ∃ d, ds[i]? = some d ∧ Rep G H Av d v := fun {ds vs i v} h e => by
  have hl := h.length
  have hi : i < ds.length := by rw [← hl]; exact (List.getElem?_eq_some_iff.mp e).1
  obtain ⟨w, e1, e2⟩ := h.get (List.getElem?_eq_getElem hi)
  rw [e] at e1; cases e1
  exact ⟨_, List.getElem?_eq_getElem hi, e2⟩
theorem RepL.append : ∀ {ds es : List D} {vs ws : List V}, RepL G H Av ds vs → RepL G H Av es ws → RepL G H Av (ds ++ es) (vs ++ ws)
  | [], _, _, _, h, h' => by
    have e : _ = [] := h
    subst e; exact h'
  | d :: ds, _, _, _, h, h' => by
    obtain ⟨v, vr, rfl, h1, h2⟩ := h
    exact ⟨v, vr ++ _, rfl, h1, RepL.append h2 h'⟩
theorem RepL.take : ∀ {ds : List D} {vs : List V} (n : Nat), RepL G H Av ds vs → RepL G H Av (ds.take n) (vs.take n)
  | _, _, 0, _ => by simp; rfl
  | [], _, n + 1, h => by
    have e : _ = [] := h
    subst e; rfl
  | d :: ds, _, n + 1, h => by
    obtain ⟨v, vr, rfl, h1, h2⟩ := h
    exact ⟨v, vr.take n, rfl, h1, RepL.take n h2⟩
theorem RepL.drop : ∀ {ds : List D} {vs : List V} (n : Nat), RepL G H Av ds vs → RepL G H Av (ds.drop n) (vs.drop n)
  | _, _, 0, h => h
  | [], _, n + 1, h => by
    have e : _ = [] := h
    subst e; rfl
  | d :: ds, _, n + 1, h => by
    obtain ⟨v, vr, rfl, _, h2⟩ := h
    exact RepL.drop n h2
theorem RepL.set : ∀ {ds : List D} {vs : List V} (i : Nat) {d : D} {v : V}, RepL G H Av ds vs → Rep G H Av d v → RepL G H Av (ds.set i d) (vs.set i v)
  | [], _, _, _, _, h, _ => by
    have e : _ = [] := h
    subst e; rfl
  | d :: ds, _, 0, _, _, h, r => by
    obtain ⟨v, vr, rfl, _, h2⟩ := h
    exact ⟨_, vr, rfl, r, h2⟩
  | d :: ds, _, i + 1, _, _, h, r => by
    obtain ⟨v, vr, rfl, h1, h2⟩ := h
    exact ⟨v, _, rfl, h1, RepL.set i h2 r⟩
theorem RepL.rep {ds : List D} {vs : List V} (h : RepL G H Av ds vs) : ∀ k : Nat, RepL G H Av (List.replicate k ds).flatten (List.replicate k vs).flatten
  | 0 => rfl
  | k + 1 => by
    rw [List.replicate_succ, List.replicate_succ, List.flatten_cons, List.flatten_cons]
    exact h.append (RepL.rep h k)
theorem RepL.reverse : ∀ {ds : List D} {vs : List V}, RepL G H Av ds vs → RepL G H Av ds.reverse vs.reverse
  | [], _, h => by
    have e : _ = [] := h
    subst e; rfl
  | d :: ds, _, h => by
    obtain ⟨v, vr, rfl, h1, h2⟩ := h
    rw [List.reverse_cons, List.reverse_cons]
    exact (RepL.reverse h2).append ⟨v, [], rfl, h1, rfl⟩
/-! ### slots -/
inductive Fd where
  | d (x : D)
  | ol (xs : List D)
inductive Sl where
  | no
  | v (f : Fd)
  | oo (c : Nat) (fs : List (Str × Fd))
abbrev Env := List Sl
def RepFd (G : Gx) (H : Hp) (Av : Addr → Prop) : Fd → V → List Addr → Prop
  | .d x, v, fp => fp = [] ∧ Rep G H Av x v
  | .ol xs, v, fp => ∃ a vs, v = .ref a ∧ fp = [a] ∧ H a = some (.lst vs) ∧ RepL G H Av xs vs
def RepFs (G : Gx) (H : Hp) (Av : Addr → Prop) : List (Str × Fd) → List (Str × V) → List Addr → Prop
  | [], vs, fp => vs = [] ∧ fp = []
  | (n, f) :: fs, vs, fp => ∃ v vr p q, vs = (n, v) :: vr ∧ fp = p ++ q ∧ RepFd G H Av f v p ∧ RepFs G H Av fs vr q
def RepSl (G : Gx) (H : Hp) (Av : Addr → Prop) : Sl → Option V → List Addr → Prop
  | .no, _, fp => fp = []
  | .v f, o, fp => ∃ v, o = some v ∧ RepFd G H Av f v fp
  | .oo c fs, o, fp => ∃ a dx vs p, o = some (.ref a) ∧ fp = a :: p ∧ H a = some (.ins (G.T.addr c) dx vs) ∧ RepFs G H Av fs vs p
def RepEnv (G : Gx) (H : Hp) (Av : Addr → Prop) : Env → List (Option V) → List Addr → Prop
  | [], σ, F => σ = [] ∧ F = []
  | s :: ρ, σ, F => ∃ o σr p q, σ = o :: σr ∧ F = p ++ q ∧ RepSl G H Av s o p ∧ RepEnv G H Av ρ σr q
/-- Kept, and the owned ones too -/
theorem RepFd.mono (k : Kept H H' Av Av') {f : Fd} {v : V} {fp : List Addr} (hf : ∀ a ∈ fp, H' a = H a) (h : RepFd G H Av f v fp) : RepFd G H' Av' f v fp := by
  cases f with
  | d x => exact ⟨h.1, Rep.mono k x h.2⟩
  | ol xs =>
    obtain ⟨a, vs, e, e2, h1, h2⟩ := h
    refine ⟨a, vs, e, e2, ?_, RepL.mono k xs h2⟩
    rw [hf a (by rw [e2]; exact List.mem_singleton.mpr rfl)]
    exact h1
theorem RepFs.mono (k : Kept H H' Av Av') : ∀ {fs : List (Str × Fd)} {vs : List (Str × V)} {fp : List Addr}, (∀ a ∈ fp, H' a = H a) → RepFs G H Av fs vs fp → RepFs G H' Av' fs vs fp
  | [], _, _, _, h => h
  | (n, f) :: fs, _, _, hf, h => by
    obtain ⟨v, vr, p, q, e1, e2, h1, h2⟩ := h
    exact ⟨v, vr, p, q, e1, e2, h1.mono k fun a ha => hf a (by rw [e2]; exact List.mem_append_left _ ha), RepFs.mono k (fun a ha => hf a (by rw [e2]; exact List.mem_append_right _ ha)) h2⟩
theorem RepSl.mono (k : Kept H H' Av Av') {s : Sl} {o : Option V} {fp : List Addr} (hf : ∀ a ∈ fp, H' a = H a) (h : RepSl G H Av s o fp) : RepSl G H' Av' s o fp := by
  cases s with
  | no => exact h
  | v f => obtain ⟨v, e, h⟩ := h; exact ⟨v, e, h.mono k hf⟩
  | oo c fs =>
    obtain ⟨a, dx, vs, p, e1, e2, h1, h2⟩ := h
    refine ⟨a, dx, vs, p, e1, e2, ?_, h2.mono k fun b hb => hf b (by rw [e2]; exact List.mem_cons_of_mem _ hb)⟩
    rw [hf a (by rw [e2]; exact List.mem_cons_self)]
    exact h1
theorem RepEnv.mono (k : Kept H H' Av Av') : ∀ {ρ : Env} {σ : List (Option V)} {F : List Addr}, (∀ a ∈ F, H' a = H a) → RepEnv G H Av ρ σ F → RepEnv G H' Av' ρ σ F
  | [], _, _, _, h => h
  | s :: ρ, _, _, hf, h => by
    obtain ⟨o, σr, p, q, e1, e2, h1, h2⟩ := h
    exact ⟨o, σr, p, q, e1, e2, h1.mono k fun a ha => hf a (by rw [e2]; exact List.mem_append_left _ ha), RepEnv.mono k (fun a ha => hf a (by rw [e2]; exact List.mem_append_right _ ha)) h2⟩
theorem RepEnv.length : ∀ {ρ : Env} {σ : List (Option V)} {F : List Addr}, RepEnv G H Av ρ σ F → σ.length = ρ.length
  | [], _, _, h => by rw [h.1]; rfl
  | s :: ρ, _, _, h => by
    obtain ⟨o, σr, p, q, e1, e2, h1, h2⟩ := h
    rw [e1, List.length_cons, List.length_cons, RepEnv.length h2]
/-- every owned place is tracked -/
theorem RepFd.dom {f : Fd} {v : V} {fp : List Addr} (h : RepFd G H Av f v fp) : ∀ a ∈ fp, H a ≠ none := fun a ha => by
  cases f with
  | d x => rw [h.1] at ha; cases ha
  | ol xs =>
    obtain ⟨b, vs, _, e2, h1, _⟩ := h
    rw [e2] at ha
    rw [List.mem_singleton.mp ha, h1]
    exact fun z => by cases z
theorem RepFs.dom : ∀ {fs : List (Str × Fd)} {vs : List (Str × V)} {fp : List Addr}, RepFs G H Av fs vs fp → ∀ a ∈ fp, H a ≠ none
  | [], _, _, h, a, ha => by rw [h.2] at ha; cases ha
  | (n, f) :: fs, _, _, h, a, ha => by
    obtain ⟨v, vr, p, q, e1, e2, h1, h2⟩ := h
    rw [e2] at ha
    rcases List.mem_append.mp ha with z | z
    · exact h1.dom a z
    · exact RepFs.dom h2 a z
theorem RepSl.dom {s : Sl} {o : Option V} {fp : List Addr} (h : RepSl G H Av s o fp) : ∀ a ∈ fp, H a ≠ none := fun a ha => by
  cases s with
  | no => rw [show fp = [] from h] at ha; cases ha
  | v f => obtain ⟨v, e, h⟩ := h; exact h.dom a ha
  | oo c fs =>
    obtain ⟨b, dx, vs, p, e1, e2, h1, h2⟩ := h
    rw [e2] at ha
    rcases List.mem_cons.mp ha with z | z
    · rw [z, h1]; exact fun z => by cases z
    · exact h2.dom a z
theorem RepEnv.dom : ∀ {ρ : Env} {σ : List (Option V)} {F : List Addr}, RepEnv G H Av ρ σ F → ∀ a ∈ F, H a ≠ none
  | [], _, _, h, a, ha => by rw [h.2] at ha; cases ha
  | s :: ρ, _, _, h, a, ha => by
    obtain ⟨o, σr, p, q, e1, e2, h1, h2⟩ := h
    rw [e2] at ha
    rcases List.mem_append.mp ha with z | z
    · exact h1.dom a z
    · exact RepEnv.dom h2 a z
/-- one slot brought out -/
theorem RepEnv.focus : ∀ {ρ : Env} {σ : List (Option V)} {F : List Addr} {i : Nat} {s : Sl}, RepEnv G H Av ρ σ F → ρ[i]? = some s →
    ∃ o p1 p p2, σ[i]? = some o ∧ F = p1 ++ p ++ p2 ∧ RepSl G H Av s o p ∧
      ∀ {H' : Hp} {Av' : Addr → Prop} {s' : Sl} {o' : Option V} {p' : List Addr}, Kept H H' Av Av' → (∀ a ∈ p1, H' a = H a) → (∀ a ∈ p2, H' a = H a) → RepSl G H' Av' s' o' p' → RepEnv G H' Av' (ρ.set i s') (σ.set i o') (p1 ++ p' ++ p2)
  | [], _, _, _, _, _, e => by simp at e
  | t :: ρ, _, _, 0, s, h, e => by
    obtain ⟨o, σr, p, q, rfl, rfl, h1, h2⟩ := h
    simp at e
    subst e
    refine ⟨o, [], p, q, rfl, by simp, h1, fun {H' Av' s' o' p'} k k1 k2 r => ?_⟩
    exact ⟨o', σr, p', q, rfl, by simp, r, h2.mono k k2⟩
  | t :: ρ, _, _, i + 1, s, h, e => by
    obtain ⟨o, σr, p, q, rfl, rfl, h1, h2⟩ := h
    obtain ⟨o2, p1, pp, p2, e1, e2, r, f⟩ := RepEnv.focus (i := i) h2 (by simpa using e)
    refine ⟨o2, p ++ p1, pp, p2, by simpa using e1, by rw [e2]; simp [List.append_assoc], r, fun {H' Av' s' o' p'} k k1 k2 r' => ?_⟩
    exact ⟨o, σr.set i o', p, p1 ++ p' ++ p2, rfl, by simp [List.append_assoc], h1.mono k fun a ha => k1 a (List.mem_append_left _ ha), f k (fun a ha => k1 a (List.mem_append_right _ ha)) k2 r'⟩
end
/-- what the frame may not touch; where its self stands, if it makes one -/
structure Gh where
  fb : Addr → Prop
  me : Option Addr := none
/-- what the frame may not touch, and its own: av -/
def avo (Fb : Gh) (F : List Addr) : Addr → Prop := fun a => a ∈ F ∨ Fb.fb a
structure StR (G : Gx) (Fb : Gh) (H : Hp) (σ : L2.St) (ρ : Env) (F : List Addr) : Prop where
  ex : ∃ F0, RepEnv G H (avo Fb F) ρ σ F0 ∧ F0.Nodup ∧ ∀ a ∈ F0, a ∈ F
  dom : ∀ a ∈ F, H a ≠ none
  fb : ∀ a, Fb.fb a → H a ≠ none ∧ a ∉ F
  sf : ∀ a, Fb.me = some a → σ[0]? = some (some (.ref a)) ∧ ∃ c fs, ρ[0]? = some (.oo c fs)
theorem StR.av {G : Gx} {Fb : Gh} {H : Hp} {σ : L2.St} {ρ : Env} {F : List Addr} (S : StR G Fb H σ ρ F) : ∀ a, avo Fb F a → H a ≠ none := fun a h => by
  rcases h with h | h
  · exact S.dom a h
  · exact (S.fb a h).1
theorem StR.length {G : Gx} {Fb : Gh} {H : Hp} {σ : L2.St} {ρ : Env} {F : List Addr} (S : StR G Fb H σ ρ F) : σ.length = ρ.length := by
  obtain ⟨F0, e, _⟩ := S.ex
  exact e.length
theorem Kept.same {H H' : Hp} {Av : Addr → Prop} (s : Same H H') : Kept H H' Av Av := ⟨fun a o h _ => s a o h, fun _ h => .inl h⟩
theorem Rep.same {G : Gx} {H H' : Hp} {Av : Addr → Prop} {d : D} {v : V} (h : Rep G H Av d v) (s : Same H H') : Rep G H' Av d v := Rep.mono (Kept.same s) d h
theorem RepL.same {G : Gx} {H H' : Hp} {Av : Addr → Prop} {d : List D} {v : List V} (h : RepL G H Av d v) (s : Same H H') : RepL G H' Av d v := RepL.mono (Kept.same s) d h
theorem same_upd {H : Hp} {p : Addr} {o : HO} (h : H p = none) : Same H (upd H p o) := fun b u e => by rw [upd_ne (ne_of_none e h)]; exact e
theorem same_at {H H' : Hp} (s : Same H H') {a : Addr} (h : H a ≠ none) : H' a = H a := by
  cases e : H a with
  | none => exact absurd e h
  | some o => exact s a o e
theorem StR.same {G : Gx} {Fb : Gh} {H H' : Hp} {σ : L2.St} {ρ : Env} {F : List Addr} (S : StR G Fb H σ ρ F) (s : Same H H') : StR G Fb H' σ ρ F := by
  obtain ⟨F0, e, nd, sub⟩ := S.ex
  exact ⟨⟨F0, e.mono (Kept.same s) (fun a ha => same_at s (e.dom a ha)), nd, sub⟩, fun a h => by rw [same_at s (S.dom a h)]; exact S.dom a h, fun a ha => ⟨by rw [same_at s (S.fb a ha).1]; exact (S.fb a ha).1, (S.fb a ha).2⟩, S.sf⟩
/-- one slot: read -/
theorem StR.slot {G : Gx} {Fb : Gh} {H : Hp} {σ : L2.St} {ρ : Env} {F : List Addr} (S : StR G Fb H σ ρ F) {i : Nat} {s : Sl} (e : ρ[i]? = some s) : ∃ o p, σ[i]? = some o ∧ RepSl G H (avo Fb F) s o p ∧ ∀ a ∈ p, a ∈ F := by
  obtain ⟨F0, r, nd, sub⟩ := S.ex
  obtain ⟨o, p1, p, p2, e1, e2, r1, _⟩ := r.focus e
  exact ⟨o, p, e1, r1, fun a h => sub a (by rw [e2]; exact List.mem_append_left _ (List.mem_append_right _ h))⟩
/-- what a statement leaves -/
structure Post (H : Hp) (F : List Addr) (H' : Hp) (F' : List Addr) : Prop where
  keep : ∀ a o, H a = some o → a ∉ F → H' a = some o
  own : ∀ a ∈ F', a ∈ F ∨ H a = none
theorem Post.refl {H : Hp} {F : List Addr} : Post H F H F := ⟨fun _ _ h _ => h, fun _ h => .inl h⟩
theorem Post.of_same {H H' : Hp} {F : List Addr} (s : Same H H') : Post H F H' F := ⟨fun a o h _ => s a o h, fun _ h => .inl h⟩
theorem Post.trans {H H1 H2 : Hp} {F F1 F2 : List Addr} (p : Post H F H1 F1) (q : Post H1 F1 H2 F2) : Post H F H2 F2 := by
  have no : ∀ a o, H a = some o → a ∉ F → a ∉ F1 := fun a o h n z => by
    rcases p.own a z with r | r
    · exact n r
    · rw [h] at r; cases r
  refine ⟨fun a o h n => q.keep a o (p.keep a o h n) (no a o h n), fun a z => ?_⟩
  rcases q.own a z with r | r
  · exact p.own a r
  · by_cases hA : a ∈ F
    · exact .inl hA
    · cases e : H a with
      | none => exact .inr rfl
      | some o => rw [p.keep a o e hA] at r; cases r
/-- a statement that writes no fb -/
theorem Post.kept {Fb : Gh} {H H' : Hp} {F F' : List Addr} (p : Post H F H' F') : Kept H H' (avo Fb F) (avo Fb F') := by
  refine ⟨fun a o h n => p.keep a o h fun z => n (.inl z), fun a z => ?_⟩
  rcases z with z | z
  · rcases p.own a z with r | r
    · exact .inl (.inl r)
    · exact .inr r
  · exact .inl (.inr z)
end Cr
/-! Core, part 2: outcomes, the judgements, expressions. -/
namespace Cr
open PySem PySem.Spec PyProof.Rows L2
inductive Exc where
  | own (c : Nat)
  | low (c : Nat) (d : D)
inductive Res (α : Type) where
  | ok (a : α)
  | err (x : Exc)
  | bad
def Res.bind {α β : Type} (r : Res α) (f : α → Res β) : Res β := match r with
  | .ok a => f a
  | .err x => .err x
  | .bad => .bad
instance : Monad Res where
  pure := .ok
  bind := Res.bind
theorem bind_ok {α β : Type} (a : α) (f : α → Res β) : ((Res.ok a : Res α) >>= f) = f a := rfl
theorem bind_err {α β : Type} (x : Exc) (f : α → Res β) : ((Res.err x : Res α) >>= f) = .err x := rfl
theorem bind_bad {α β : Type} (f : α → Res β) : ((Res.bad : Res α) >>= f) = .bad := rfl
theorem pure_ok {α : Type} (a : α) : (pure a : Res α) = .ok a := rfl
abbrev gx (X : Cx) (T : CT) : Gx := ⟨X.K, T⟩
def ExcRep (G : Gx) (H : Hp) : Exc → Value → Option Addr → Prop
  | .own c, cls, d => cls = .ref (G.T.addr c) ∧ d = none
  | .low c x, cls, d => cls = .ref (G.T.addr c) ∧ ∃ a v, d = some a ∧ H a = some (.xd [(low c, v)]) ∧ ∀ Av, Rep G H Av x v
/-! ### readings by what they mean -/
section
variable (X : Cx)
def TWe (e : Expr) : TE := fun σ H Q => ∀ (pins : List (Addr × Obj)) (s : Shared), Inv X pins σ H s → wpAny (model X.prog X.w) X.A (eval e X.env) (EP X pins σ Q) X.xe s
def TWt (e : Expr) : TT := fun σ H Q => ∀ (pins : List (Addr × Obj)) (s : Shared), Inv X pins σ H s → wpAny (model X.prog X.w) X.A (isTrue e X.env (eval e X.env)) (TP X pins σ Q) X.xe s
def TWw (e : Expr) : TT := fun σ H Q => ∀ (whole : Sem Value) (pins : List (Addr × Obj)) (s : Shared), Inv X pins σ H s → wpAny (model X.prog X.w) X.A (isTrue e X.env whole) (TP X pins σ Q) X.xe s
def TWa (es : List Expr) : TA := fun σ H Q => ∀ (pos : Pos) (pins : List (Addr × Obj)) (s : Shared), Inv X pins σ H s → wpAny (model X.prog X.w) X.A (spliced (backTo pos (starEach es X.env))) (AP X pins σ Q) X.xe s
def TWs (st : Stmt) : TS := fun D σ H => ∀ (pins : List (Addr × Obj)) (s : Shared), Inv X pins σ H s → wpAny (model X.prog X.w) X.A (exec st X.env) (SP X pins D) X.xe s
def TWss (st : List Stmt) : TS := fun D σ H => ∀ (pins : List (Addr × Obj)) (s : Shared), Inv X pins σ H s → wpAny (model X.prog X.w) X.A (execs st X.env) (SP X pins D) X.xe s
end
section
variable {X : Cx} {e : Expr} {es : List Expr} {st : Stmt} {sts : List Stmt} {σ : L2.St} {H : Hp}
theorem pe_tw : PE X e (TWe X e) := ⟨fun pins s _ _ _ I h => h pins s I⟩
theorem pt_tw : PT X e (TWt X e) := ⟨fun pins s _ _ _ I h => h pins s I⟩
theorem pw_tw : PW X e (TWw X e) := ⟨fun w pins s _ _ _ I h => h w pins s I⟩
theorem pa_tw : PA X es (TWa X es) := ⟨fun pos pins s _ _ _ I h => h pos pins s I⟩
theorem ps_tw : PS X st (TWs X st) := ⟨fun pins s _ _ _ I h => h pins s I⟩
theorem pss_tw : PSs X sts (TWss X sts) := ⟨fun pins s _ _ _ I h => h pins s I⟩
theorem _root_.L2.PE.tw {t : TE} {Q : VK} (h : PE X e t) (q : t σ H Q) : TWe X e σ H Q := fun pins s I => h.run pins s σ H Q I q
theorem _root_.L2.PT.tw {t : TT} {Q : Bool → Hp → Prop} (h : PT X e t) (q : t σ H Q) : TWt X e σ H Q := fun pins s I => h.run pins s σ H Q I q
theorem _root_.L2.PW.tw {t : TT} {Q : Bool → Hp → Prop} (h : PW X e t) (q : t σ H Q) : TWw X e σ H Q := fun w pins s I => h.run w pins s σ H Q I q
theorem _root_.L2.PA.tw {t : TA} {Q : List V → Hp → Prop} (h : PA X es t) (q : t σ H Q) : TWa X es σ H Q := fun pos pins s I => h.run pos pins s σ H Q I q
theorem _root_.L2.PS.tw {t : TS} {D : Ends} (h : PS X st t) (q : t D σ H) : TWs X st D σ H := fun pins s I => h.run pins s σ H D I q
theorem _root_.L2.PSs.tw {t : TS} {D : Ends} (h : PSs X sts t) (q : t D σ H) : TWss X sts D σ H := fun pins s I => h.run pins s σ H D I q
theorem TWe.imp {Q Q' : VK} (h : TWe X e σ H Q) (f : ∀ v H', Q v H' → Q' v H') : TWe X e σ H Q' := fun pins s I => thn (h pins s I) fun u s1 ⟨v, H1, I1, r, q⟩ => ⟨v, H1, I1, r, f _ _ q⟩
end
/-! ### outcomes -/
def ErrOk (X : Cx) (T : CT) (σ : L2.St) (H : Hp) (x : Exc) : Prop :=
  ∃ W : WX, Takes X W ∧ ∀ cls d H', Same H H' → ExcRep (gx X T) H' x cls d → W cls d σ H'
def Out {α : Type} (X : Cx) (T : CT) (σ : L2.St) (H : Hp) (r : Res α) (P : α → Prop) : Prop := match r with
  | .ok a => P a
  | .err x => ErrOk X T σ H x
  | .bad => False
section
variable {X : Cx} {T : CT} {σ : L2.St} {H H' : Hp} {α β : Type}
theorem ErrOk.same {x : Exc} (h : ErrOk X T σ H x) (s : Same H H') : ErrOk X T σ H' x := by
  obtain ⟨W, tk, f⟩ := h
  exact ⟨W, tk, fun cls d H2 s2 r => f cls d H2 (s.trans s2) r⟩
theorem Out.imp {r : Res α} {P P' : α → Prop} (h : Out X T σ H r P) (f : ∀ a, r = .ok a → P a → P' a) : Out X T σ H r P' := by
  cases r with
  | ok a => exact f a rfl h
  | err x => exact h
  | bad => exact h
theorem Out.same {r : Res α} {P : α → Prop} (h : Out X T σ H r P) (s : Same H H') : Out X T σ H' r P := by
  cases r with
  | ok a => exact h
  | err x => exact ErrOk.same h s
  | bad => exact h
theorem Out.bind {r : Res α} {f : α → Res β} {P : β → Prop} (h : Out X T σ H (r >>= f) P) : Out X T σ H r fun a => Out X T σ H (f a) P := by
  cases r with
  | ok a => exact h
  | err x => exact h
  | bad => exact h
end
/-! ### the judgements -/
/-- the value may be an owned list -/
def RepB (G : Gx) (H : Hp) (Av : Addr → Prop) : D → V → Prop
  | .lst ds, v => ∃ a vs, v = .ref a ∧ H a = some (.lst vs) ∧ RepL G H Av ds vs
  | d, v => Rep G H Av d v
theorem Rep.b {G : Gx} {H : Hp} {Av : Addr → Prop} {d : D} {v : V} (h : Rep G H Av d v) : RepB G H Av d v := by
  cases d <;> first | exact h | (obtain ⟨a, vs, e, h1, h2⟩ := h; exact ⟨a, vs, e, h1.1, h2⟩)
theorem RepB.same {G : Gx} {H H' : Hp} {Av : Addr → Prop} {d : D} {v : V} (h : RepB G H Av d v) (s : Same H H') : RepB G H' Av d v := by
  cases d <;> first | exact Rep.same h s | (obtain ⟨a, vs, e, h1, h2⟩ := h; exact ⟨a, vs, e, s _ _ h1, RepL.same h2 s⟩)
theorem kept_less {H : Hp} {Av : Addr → Prop} {p : Addr} : Kept H H (fun a => a = p ∨ Av a) Av := ⟨fun _ _ h _ => h, fun _ z => .inl (.inr z)⟩
theorem kept_new {H : Hp} {Av : Addr → Prop} {p : Addr} {o : HO} (hp : H p = none) : Kept H (upd H p o) Av (fun a => a = p ∨ Av a) :=
  ⟨fun a u h _ => by rw [upd_ne (ne_of_none h hp)]; exact h, fun a z => z.elim (fun q => .inr (by rw [q]; exact hp)) .inl⟩
theorem RepL.new {G : Gx} {H : Hp} {Av : Addr → Prop} {ds : List D} {vs : List V} {p : Addr} {o : HO} (r : RepL G H Av ds vs) (hp : H p = none) : RepL G (upd H p o) (fun a => a = p ∨ Av a) ds vs := RepL.mono (kept_new hp) ds r
section
variable (T : CT) (Fb : Gh) (X : Cx)
structure ME (e : Expr) (m : Env → Res D) : Prop where
  run : ∀ (σ : L2.St) (H : Hp) (F : List Addr) (ρ : Env) (Q : VK), StR (gx X T) Fb H σ ρ F →
    Out X T σ H (m ρ) (fun d => ∀ v H', Same H H' → Rep (gx X T) H' (avo Fb F) d v → Q v H') → TWe X e σ H Q
structure MB (e : Expr) (m : Env → Res D) : Prop where
  run : ∀ (σ : L2.St) (H : Hp) (F : List Addr) (ρ : Env) (Q : VK), StR (gx X T) Fb H σ ρ F →
    Out X T σ H (m ρ) (fun d => ∀ v H', Same H H' → RepB (gx X T) H' (avo Fb F) d v → Q v H') → TWe X e σ H Q
/-- a new list -/
structure MF (e : Expr) (m : Env → Res (List D)) : Prop where
  run : ∀ (σ : L2.St) (H : Hp) (F : List Addr) (ρ : Env) (Q : VK), StR (gx X T) Fb H σ ρ F →
    Out X T σ H (m ρ) (fun ds => ∀ p vs H', H p = none → Same H H' → H' p = some (.lst vs) → RepL (gx X T) H' (fun a => a = p ∨ avo Fb F a) ds vs → Q (.ref p) H') → TWe X e σ H Q
structure MT (e : Expr) (m : Env → Res Bool) : Prop where
  run : ∀ (σ : L2.St) (H : Hp) (F : List Addr) (ρ : Env) (Q : Bool → Hp → Prop), StR (gx X T) Fb H σ ρ F →
    Out X T σ H (m ρ) (fun b => ∀ H', Same H H' → Q b H') → TWt X e σ H Q
structure MW (e : Expr) (m : Env → Res Bool) : Prop where
  run : ∀ (σ : L2.St) (H : Hp) (F : List Addr) (ρ : Env) (Q : Bool → Hp → Prop), StR (gx X T) Fb H σ ρ F →
    Out X T σ H (m ρ) (fun b => ∀ H', Same H H' → Q b H') → TWw X e σ H Q
/-- arguments that are handed on -/
structure ML (es : List Expr) (m : Env → Res (List D)) : Prop where
  run : ∀ (σ : L2.St) (H : Hp) (F : List Addr) (ρ : Env) (Q : List V → Hp → Prop), StR (gx X T) Fb H σ ρ F →
    Out X T σ H (m ρ) (fun ds => ∀ vs H', Same H H' → RepL (gx X T) H' (avo Fb F) ds vs → Q vs H') → TWa X es σ H Q
end
section
variable {T : CT} {Fb : Gh} {X : Cx} {e a b c : Expr} {es : List Expr} {m ma mb mc : Env → Res D} {pos : Pos}
theorem ME.toB (h : ME T Fb X e m) : MB T Fb X e m := ⟨fun σ H F ρ Q S o => h.run σ H F ρ Q S (o.imp fun d _ f v H' s r => f v H' s r.b)⟩
def toE (m : Env → Res (List D)) : Env → Res D := fun ρ => m ρ >>= fun ds => .ok (.lst ds)
theorem MF.toE {m : Env → Res (List D)} (h : MF T Fb X e m) : ME T Fb X e (toE m) :=
  ⟨fun σ H F ρ Q S o => h.run σ H F ρ Q S (o.bind.imp fun ds _ f p vs H' np s hp r => f _ _ s ⟨p, vs, rfl, ⟨hp, fun z => absurd np (S.av p z)⟩, RepL.mono kept_less ds r⟩)⟩
theorem MW.toT {m : Env → Res Bool} (h : MW T Fb X e m) : MT T Fb X e m := ⟨fun σ H F ρ Q S o pins s I => h.run σ H F ρ Q S o _ pins s I⟩
/-! ### names and constants -/
def mVar (i : Nat) : Env → Res D := fun ρ => match ρ[i]? with
  | some (.v (.d x)) => .ok x
  | _ => .bad
def mVarB (i : Nat) : Env → Res D := fun ρ => match ρ[i]? with
  | some (.v (.d x)) => .ok x
  | some (.v (.ol xs)) => .ok (.lst xs)
  | _ => .bad
theorem me_var (i : Nat) {x : Str} (hN : X.N[i]? = some x := by rfl) (hv : Vis X.env.scope x := by first | exact Or.inl rfl | exact Or.inr (Or.inl rfl) | exact Or.inr (Or.inr rfl))
    (hd : (x == ("__debug__" : Str)) = false := by decide) (hcd : (x == ("__classdict__" : Str)) = false := by decide) : ME T Fb X (.Name x pos) (mVar i) := by
  refine ⟨fun σ H F ρ Q S o => ?_⟩
  refine (pe_var hN hv hd hcd).tw ?_
  unfold mVar at o
  split at o
  · rename_i x e
    obtain ⟨o', p, e1, r, _⟩ := S.slot e
    obtain ⟨v, rfl, r⟩ := r
    exact ⟨v, e1, o v H (Same.refl H) r.2⟩
  · exact False.elim o
theorem mb_var (i : Nat) {x : Str} (hN : X.N[i]? = some x := by rfl) (hv : Vis X.env.scope x := by first | exact Or.inl rfl | exact Or.inr (Or.inl rfl) | exact Or.inr (Or.inr rfl))
    (hd : (x == ("__debug__" : Str)) = false := by decide) (hcd : (x == ("__classdict__" : Str)) = false := by decide) : MB T Fb X (.Name x pos) (mVarB i) := by
  refine ⟨fun σ H F ρ Q S o => ?_⟩
  refine (pe_var hN hv hd hcd).tw ?_
  unfold mVarB at o
  split at o
  · rename_i x e
    obtain ⟨o', p, e1, r, _⟩ := S.slot e
    obtain ⟨v, rfl, r⟩ := r
    exact ⟨v, e1, o v H (Same.refl H) r.2.b⟩
  · rename_i xs e
    obtain ⟨o', p, e1, r, _⟩ := S.slot e
    obtain ⟨v, rfl, a, vs, rfl, _, h1, h2⟩ := r
    exact ⟨_, e1, o _ H (Same.refl H) ⟨a, vs, rfl, h1, h2⟩⟩
  · exact False.elim o
def mC (d : D) : Env → Res D := fun _ => .ok d
theorem me_int {i j} : ME T Fb X (.Constant (.int i) j pos) (mC (.int i)) := ⟨fun σ H F ρ Q S o => pe_int.tw (o _ _ (Same.refl H) rfl)⟩
theorem me_bl {b j} : ME T Fb X (.Constant (.bool b) j pos) (mC (.bl b)) := ⟨fun σ H F ρ Q S o => pe_bl.tw (o _ _ (Same.refl H) rfl)⟩
theorem me_non {j} : ME T Fb X (.Constant .none j pos) (mC .non) := ⟨fun σ H F ρ Q S o => pe_non.tw (o _ _ (Same.refl H) rfl)⟩
theorem me_str {x j} : ME T Fb X (.Constant (.str x) j pos) (mC (.str x)) := ⟨fun σ H F ρ Q S o => pe_str.tw (o _ _ (Same.refl H) rfl)⟩
/-- a constant of the module -/
def GloD (K : PySem.W.Frag) (T : CT) (mg : Str → Option Value) (x : Str) (d : D) : Prop := ∃ u v, mg x = some u ∧ RelV v u ∧ ∀ H Av, Rep ⟨K, T⟩ H Av d v
theorem me_glo {x : Str} {d : D} (g : GloD X.K T X.mg x d) (hg : Gl X x := by rfl) (hd : (x == ("__debug__" : Str)) = false := by decide) : ME T Fb X (.Name x pos) (mC d) := by
  obtain ⟨u, v, e, r, f⟩ := g
  exact ⟨fun σ H F ρ Q S o => (pe_glob hg e r hd).tw (o _ _ (Same.refl H) (f _ _))⟩
/-! ### operations on values -/
/-- a two-place operation with its mirror -/
structure OpM (T : CT) (X : Cx) (f : Value → Value → Sem Value) (g : D → D → Res D) : Prop where
  ex : ∃ r : R2, OpR X f r ∧ ∀ (σ : L2.St) (H : Hp) (Av : Addr → Prop) (dx dy : D) (x y : V) (Q : VK), (∀ a, Av a → H a ≠ none) → RepB (gx X T) H Av dx x → RepB (gx X T) H Av dy y →
    Out X T σ H (g dx dy) (fun d => ∀ v H', Same H H' → Rep (gx X T) H' Av d v → Q v H') → r x y H Q
def mBin (g : D → D → Res D) (ma mb : Env → Res D) : Env → Res D := fun ρ => ma ρ >>= fun x => mb ρ >>= fun y => g x y
theorem me_bin {op : Operator} {g : D → D → Res D} (ho : OpM T X (binaryOp op) g) (ha : MB T Fb X a ma) (hb : MB T Fb X b mb) : ME T Fb X (.BinOp a op b pos) (mBin g ma mb) := by
  obtain ⟨r, hr, hf⟩ := ho.ex
  refine ⟨fun σ H F ρ Q S o => (pe_op hr pe_tw pe_tw).tw ?_⟩
  refine ha.run σ H F ρ _ S (o.bind.imp fun x _ o1 v H1 s1 r1 => ?_)
  refine hb.run σ H1 F ρ _ (S.same s1) ((o1.same s1).bind.imp fun y _ o2 u H2 s2 r2 => ?_)
  exact hf σ H2 (avo Fb F) x y v u Q ((S.same s1).same s2).av (r1.same s2) r2 ((o2.same s2).imp fun d _ f w H' s3 r3 => f w H' (s1.trans (s2.trans s3)) r3)
theorem me_cmp {op : CmpOp} {g : D → D → Res D} (ho : OpM T X (compareOp op) g) (ha : MB T Fb X a ma) (hb : MB T Fb X b mb) (hm : behindInMarks op b = false := by first | exact nomark _ | rfl | with_unfolding_all rfl) :
    ME T Fb X (.Compare a [op] [b] pos) (mBin g ma mb) := by
  obtain ⟨r, hr, hf⟩ := ho.ex
  refine ⟨fun σ H F ρ Q S o => (pe_cmpR hr pe_tw pe_tw hm).tw ?_⟩
  refine ha.run σ H F ρ _ S (o.bind.imp fun x _ o1 v H1 s1 r1 => ?_)
  refine hb.run σ H1 F ρ _ (S.same s1) ((o1.same s1).bind.imp fun y _ o2 u H2 s2 r2 => ?_)
  exact hf σ H2 (avo Fb F) x y v u Q ((S.same s1).same s2).av (r1.same s2) r2 ((o2.same s2).imp fun d _ f w H' s3 r3 => f w H' (s1.trans (s2.trans s3)) r3)
/-- a value as a truth: only True and False -/
def tru : D → Res Bool
  | .bl b => .ok b
  | _ => .bad
def mTst (m : Env → Res D) : Env → Res Bool := fun ρ => m ρ >>= tru
theorem mt_cmp {op : CmpOp} {g : D → D → Res D} (ho : OpM T X (compareOp op) g) (ha : MB T Fb X a ma) (hb : MB T Fb X b mb) (hm : behindInMarks op b = false := by first | exact nomark _ | rfl | with_unfolding_all rfl) :
    MT T Fb X (.Compare a [op] [b] pos) (mTst (mBin g ma mb)) := by
  obtain ⟨r, hr, hf⟩ := ho.ex
  refine ⟨fun σ H F ρ Q S o => (pt_cmpR hr pe_tw pe_tw hm).tw ?_⟩
  refine ha.run σ H F ρ _ S (o.bind.bind.imp fun x _ o1 v H1 s1 r1 => ?_)
  refine hb.run σ H1 F ρ _ (S.same s1) ((o1.same s1).bind.imp fun y _ o2 u H2 s2 r2 => ?_)
  refine hf σ H2 (avo Fb F) x y v u _ ((S.same s1).same s2).av (r1.same s2) r2 ((o2.same s2).imp fun d _ f w H' s3 r3 => ?_)
  cases d with
  | bl k => exact ⟨k, r3, f H' (s1.trans (s2.trans s3))⟩
  | _ => exact False.elim f
/-- a test by a value True or False -/
theorem mt_val (h : ME T Fb X e m) (he : ∀ whole, isTrue e X.env whole = (do let v ← whole; standAt e.pos; holding [v] (truthy v)) := by intro _; rfl) : MT T Fb X e (mTst m) := by
  refine ⟨fun σ H F ρ Q S o => (pt_val pe_tw he).tw ?_⟩
  refine h.run σ H F ρ _ S (o.bind.imp fun d _ f v H' s r => ?_)
  cases d with
  | bl k => exact ⟨k, r, f H' s⟩
  | _ => exact False.elim f
/-- a op b op' c -/
def mChain (g g' : D → D → Res D) (ma mb mc : Env → Res D) : Env → Res D := fun ρ => ma ρ >>= fun x => mb ρ >>= fun y => (g x y >>= tru) >>= fun k => match k with
  | true => mc ρ >>= fun z => g' y z
  | false => .ok (.bl false)
theorem chain_core {op op' : CmpOp} {g g' : D → D → Res D} {r r' : R2} {σ : L2.St} {H : Hp} {F : List Addr} {ρ : Env} {Q : VK}
    (hf : ∀ (σ : L2.St) (H : Hp) (Av : Addr → Prop) (dx dy : D) (x y : V) (Q : VK), (∀ a, Av a → H a ≠ none) → RepB (gx X T) H Av dx x → RepB (gx X T) H Av dy y →
      Out X T σ H (g dx dy) (fun d => ∀ v H', Same H H' → Rep (gx X T) H' Av d v → Q v H') → r x y H Q)
    (hf' : ∀ (σ : L2.St) (H : Hp) (Av : Addr → Prop) (dx dy : D) (x y : V) (Q : VK), (∀ a, Av a → H a ≠ none) → RepB (gx X T) H Av dx x → RepB (gx X T) H Av dy y →
      Out X T σ H (g' dx dy) (fun d => ∀ v H', Same H H' → Rep (gx X T) H' Av d v → Q v H') → r' x y H Q)
    (ha : MB T Fb X a ma) (hb : MB T Fb X b mb) (hc : MB T Fb X c mc) (S : StR (gx X T) Fb H σ ρ F)
    (o : Out X T σ H (mChain g g' ma mb mc ρ) fun d => ∀ v H', Same H H' → Rep (gx X T) H' (avo Fb F) d v → Q v H') : tChain r r' (TWe X a) (TWe X b) (TWe X c) σ H Q := by
  refine ha.run σ H F ρ _ S (o.bind.imp fun x _ o1 v H1 s1 r1 => ?_)
  refine hb.run σ H1 F ρ _ (S.same s1) ((o1.same s1).bind.imp fun y _ o2 u H2 s2 r2 => ?_)
  have S2 := (S.same s1).same s2
  refine hf σ H2 (avo Fb F) x y v u _ S2.av (r1.same s2) r2 ((o2.same s2).bind.bind.imp fun d _ o3 w H3 s3 r3 => ?_)
  cases d with
  | bl k =>
    refine ⟨k, r3, ?_⟩
    have o4 : Out X T σ H2 (match k with | true => mc ρ >>= fun z => g' y z | false => .ok (.bl false)) fun d => ∀ v H', Same H H' → Rep (gx X T) H' (avo Fb F) d v → Q v H' := o3
    cases k with
    | true =>
      rw [if_pos rfl]
      refine hc.run σ H3 F ρ _ (S2.same s3) ((o4.same s3).bind.imp fun z _ o5 w' H4 s4 r4 => ?_)
      exact hf' σ H4 (avo Fb F) y z u w' Q ((S2.same s3).same s4).av ((r2.same s3).same s4) r4 ((o5.same s4).imp fun d _ f w H' s5 r5 => f w H' (s1.trans (s2.trans (s3.trans (s4.trans s5)))) r5)
    | false =>
      rw [if_neg Bool.false_ne_true]
      exact o4 _ _ (s1.trans (s2.trans s3)) rfl
  | _ => exact False.elim o3
theorem me_chain {op op' : CmpOp} {g g' : D → D → Res D} (ho : OpM T X (compareOp op) g) (ho' : OpM T X (compareOp op') g') (ha : MB T Fb X a ma) (hb : MB T Fb X b mb) (hc : MB T Fb X c mc)
    (hm : lastMarks [op, op'] [b, c] = false := by with_unfolding_all rfl) : ME T Fb X (.Compare a [op, op'] [b, c] pos) (mChain g g' ma mb mc) := by
  obtain ⟨r, hr, hf⟩ := ho.ex
  obtain ⟨r', hr', hf'⟩ := ho'.ex
  exact ⟨fun σ H F ρ Q S o => (pe_chain hr hr' pe_tw pe_tw pe_tw hm).tw (chain_core (op := op) (op' := op') hf hf' ha hb hc S o)⟩
theorem mt_chain {op op' : CmpOp} {g g' : D → D → Res D} (ho : OpM T X (compareOp op) g) (ho' : OpM T X (compareOp op') g') (ha : MB T Fb X a ma) (hb : MB T Fb X b mb) (hc : MB T Fb X c mc)
    (hm : lastMarks [op, op'] [b, c] = false := by with_unfolding_all rfl) : MT T Fb X (.Compare a [op, op'] [b, c] pos) (mTst (mChain g g' ma mb mc)) := by
  obtain ⟨r, hr, hf⟩ := ho.ex
  obtain ⟨r', hr', hf'⟩ := ho'.ex
  refine ⟨fun σ H F ρ Q S o => (pt_chain hr hr' pe_tw pe_tw pe_tw hm).tw (chain_core (op := op) (op' := op') hf hf' ha hb hc S (o.bind.imp fun d _ f v H' s r => ?_))⟩
  cases d with
  | bl k => exact ⟨k, r, f H' s⟩
  | _ => exact False.elim f
/-! ### and, or, not, if -/
def mAnd (ta tb : Env → Res Bool) : Env → Res Bool := fun ρ => ta ρ >>= fun k => match k with
  | true => tb ρ
  | false => .ok false
def mOr (ta tb : Env → Res Bool) : Env → Res Bool := fun ρ => ta ρ >>= fun k => match k with
  | true => .ok true
  | false => tb ρ
def mNot (t : Env → Res Bool) : Env → Res Bool := fun ρ => t ρ >>= fun k => .ok (!k)
variable {ta tb : Env → Res Bool} {rest : List Expr}
theorem mw_and1 (ha : MT T Fb X a ta) : MW T Fb X (.BoolOp .And [a] pos) ta := ⟨fun σ H F ρ Q S o => (pw_and1 pt_tw).tw (ha.run σ H F ρ Q S o)⟩
theorem mw_or1 (ha : MT T Fb X a ta) : MW T Fb X (.BoolOp .Or [a] pos) ta := ⟨fun σ H F ρ Q S o => (pw_or1 pt_tw).tw (ha.run σ H F ρ Q S o)⟩
theorem mw_and (ha : MT T Fb X a ta) (hb : MW T Fb X (.BoolOp .And (b :: rest) pos) tb) : MW T Fb X (.BoolOp .And (a :: b :: rest) pos) (mAnd ta tb) := by
  refine ⟨fun σ H F ρ Q S o => (pw_and pt_tw pw_tw).tw ?_⟩
  refine ha.run σ H F ρ _ S (o.bind.imp fun k _ o1 H1 s1 => ?_)
  have o2 : Out X T σ H (match k with | true => tb ρ | false => .ok false) fun b => ∀ H', Same H H' → Q b H' := o1
  cases k with
  | true => exact iteT (hb.run σ H1 F ρ _ (S.same s1) ((o2.same s1).imp fun b _ f H2 s2 => f H2 (s1.trans s2)))
  | false => exact iteF (o2 H1 s1)
theorem mw_or (ha : MT T Fb X a ta) (hb : MW T Fb X (.BoolOp .Or (b :: rest) pos) tb) : MW T Fb X (.BoolOp .Or (a :: b :: rest) pos) (mOr ta tb) := by
  refine ⟨fun σ H F ρ Q S o => (pw_or pt_tw pw_tw).tw ?_⟩
  refine ha.run σ H F ρ _ S (o.bind.imp fun k _ o1 H1 s1 => ?_)
  have o2 : Out X T σ H (match k with | true => .ok true | false => tb ρ) fun b => ∀ H', Same H H' → Q b H' := o1
  cases k with
  | true => exact iteT (o2 H1 s1)
  | false => exact iteF (hb.run σ H1 F ρ _ (S.same s1) ((o2.same s1).imp fun b _ f H2 s2 => f H2 (s1.trans s2)))
theorem mt_not (ha : MT T Fb X a ta) : MT T Fb X (.UnaryOp .Not a pos) (mNot ta) :=
  ⟨fun σ H F ρ Q S o => (pt_not pt_tw).tw (ha.run σ H F ρ _ S (o.bind.imp fun k _ f H1 s1 => f H1 s1))⟩
/-- .. as values -/
def mAndV (ma mb : Env → Res D) : Env → Res D := fun ρ => (ma ρ >>= tru) >>= fun k => match k with
  | true => mb ρ
  | false => .ok (.bl false)
def mOrV (ma mb : Env → Res D) : Env → Res D := fun ρ => (ma ρ >>= tru) >>= fun k => match k with
  | true => .ok (.bl true)
  | false => mb ρ
def mNotV (ma : Env → Res D) : Env → Res D := fun ρ => (ma ρ >>= tru) >>= fun k => .ok (.bl (!k))
theorem me_one {op} (h : ME T Fb X a ma) : ME T Fb X (.BoolOp op [a] pos) ma := ⟨fun σ H F ρ Q S o => (pe_one pe_tw).tw (h.run σ H F ρ Q S o)⟩
theorem me_and (ha : ME T Fb X a ma) (hb : ME T Fb X (.BoolOp .And (b :: rest) pos) mb) : ME T Fb X (.BoolOp .And (a :: b :: rest) pos) (mAndV ma mb) := by
  refine ⟨fun σ H F ρ Q S o => (pe_and pe_tw pe_tw).tw ?_⟩
  refine ha.run σ H F ρ _ S (o.bind.bind.imp fun d _ o1 v H1 s1 r1 => ?_)
  cases d with
  | bl k =>
    refine ⟨k, r1, ?_⟩
    have o2 : Out X T σ H (match k with | true => mb ρ | false => .ok (.bl false)) fun d => ∀ v H', Same H H' → Rep (gx X T) H' (avo Fb F) d v → Q v H' := o1
    cases k with
    | true => exact iteT (hb.run σ H1 F ρ _ (S.same s1) ((o2.same s1).imp fun b _ f v H2 s2 r => f v H2 (s1.trans s2) r))
    | false => exact iteF (o2 _ _ s1 rfl)
  | _ => exact False.elim o1
theorem me_or (ha : ME T Fb X a ma) (hb : ME T Fb X (.BoolOp .Or (b :: rest) pos) mb) : ME T Fb X (.BoolOp .Or (a :: b :: rest) pos) (mOrV ma mb) := by
  refine ⟨fun σ H F ρ Q S o => (pe_or pe_tw pe_tw).tw ?_⟩
  refine ha.run σ H F ρ _ S (o.bind.bind.imp fun d _ o1 v H1 s1 r1 => ?_)
  cases d with
  | bl k =>
    refine ⟨k, r1, ?_⟩
    have o2 : Out X T σ H (match k with | true => .ok (.bl true) | false => mb ρ) fun d => ∀ v H', Same H H' → Rep (gx X T) H' (avo Fb F) d v → Q v H' := o1
    cases k with
    | true => exact iteT (o2 _ _ s1 rfl)
    | false => exact iteF (hb.run σ H1 F ρ _ (S.same s1) ((o2.same s1).imp fun b _ f v H2 s2 r => f v H2 (s1.trans s2) r))
  | _ => exact False.elim o1
theorem me_not (ha : ME T Fb X a ma) : ME T Fb X (.UnaryOp .Not a pos) (mNotV ma) := by
  refine ⟨fun σ H F ρ Q S o => (pe_not pe_tw).tw ?_⟩
  refine ha.run σ H F ρ _ S (o.bind.bind.imp fun d _ o1 v H1 s1 r1 => ?_)
  cases d with
  | bl k => exact ⟨k, r1, o1 _ _ s1 rfl⟩
  | _ => exact False.elim o1
def mIf {α : Type} (t : Env → Res Bool) (ma mb : Env → Res α) : Env → Res α := fun ρ => t ρ >>= fun k => match k with
  | true => ma ρ
  | false => mb ρ
theorem me_if {t : Env → Res Bool} (hc : MT T Fb X c t) (ha : ME T Fb X a ma) (hb : ME T Fb X b mb) : ME T Fb X (.IfExp c a b pos) (mIf t ma mb) := by
  refine ⟨fun σ H F ρ Q S o => (pe_ifExp pt_tw pe_tw pe_tw).tw ?_⟩
  refine hc.run σ H F ρ _ S (o.bind.imp fun k _ o1 H1 s1 => ?_)
  have o2 : Out X T σ H (match k with | true => ma ρ | false => mb ρ) fun d => ∀ v H', Same H H' → Rep (gx X T) H' (avo Fb F) d v → Q v H' := o1
  cases k with
  | true => exact iteT (ha.run σ H1 F ρ _ (S.same s1) ((o2.same s1).imp fun b _ f v H2 s2 r => f v H2 (s1.trans s2) r))
  | false => exact iteF (hb.run σ H1 F ρ _ (S.same s1) ((o2.same s1).imp fun b _ f v H2 s2 r => f v H2 (s1.trans s2) r))
/-! ### arguments, displays -/
def mNil : Env → Res (List D) := fun _ => .ok []
def mCons (ma : Env → Res D) (mr : Env → Res (List D)) : Env → Res (List D) := fun ρ => ma ρ >>= fun x => mr ρ >>= fun xs => .ok (x :: xs)
theorem ml_nil : ML T Fb X [] mNil := ⟨fun σ H F ρ Q S o => pa_nil.tw (o _ _ (Same.refl H) rfl)⟩
theorem ml_cons {mr : Env → Res (List D)} (ha : ME T Fb X e ma) (hr : ML T Fb X es mr) (hs : starEach (e :: es) X.env = (false, eval e X.env) :: starEach es X.env := by rfl) : ML T Fb X (e :: es) (mCons ma mr) := by
  refine ⟨fun σ H F ρ Q S o => (pa_cons pe_tw pa_tw hs).tw ?_⟩
  refine ha.run σ H F ρ _ S (o.bind.imp fun x _ o1 v H1 s1 r1 => ?_)
  refine hr.run σ H1 F ρ _ (S.same s1) ((o1.same s1).bind.imp fun xs _ f vs H2 s2 r2 => ?_)
  exact f _ _ (s1.trans s2) ⟨v, vs, rfl, r1.same s2, r2⟩
/-- the first argument borrowed -/
structure MLb (T : CT) (Fb : Gh) (X : Cx) (es : List Expr) (m : Env → Res (List D)) : Prop where
  run : ∀ (σ : L2.St) (H : Hp) (F : List Addr) (ρ : Env) (Q : List V → Hp → Prop), StR (gx X T) Fb H σ ρ F →
    Out X T σ H (m ρ) (fun ds => ∀ vs H', Same H H' → Paired (RepB (gx X T) H' (avo Fb F)) ds vs → Q vs H') → TWa X es σ H Q
theorem mlb_nil : MLb T Fb X [] mNil := ⟨fun σ H F ρ Q S o => pa_nil.tw (o _ _ (Same.refl H) .nil)⟩
theorem paired_same {G : Gx} {H H' : Hp} {Av : Addr → Prop} (s : Same H H') : ∀ {ds : List D} {vs : List V}, Paired (RepB G H Av) ds vs → Paired (RepB G H' Av) ds vs
  | _, _, .nil => .nil
  | _, _, .cons r t => .cons (r.same s) (paired_same s t)
theorem mlb_cons {mr : Env → Res (List D)} (ha : MB T Fb X e ma) (hr : MLb T Fb X es mr) (hs : starEach (e :: es) X.env = (false, eval e X.env) :: starEach es X.env := by rfl) : MLb T Fb X (e :: es) (mCons ma mr) := by
  refine ⟨fun σ H F ρ Q S o => (pa_cons pe_tw pa_tw hs).tw ?_⟩
  refine ha.run σ H F ρ _ S (o.bind.imp fun x _ o1 v H1 s1 r1 => ?_)
  refine hr.run σ H1 F ρ _ (S.same s1) ((o1.same s1).bind.imp fun xs _ f vs H2 s2 r2 => ?_)
  exact f _ _ (s1.trans s2) (.cons (r1.same s2) r2)
def mTup (m : Env → Res (List D)) : Env → Res D := fun ρ => m ρ >>= fun xs => if xs.length ≤ sizeLine then .ok (.tup xs) else .bad
theorem avo_no {Fb : Gh} {H : Hp} {F : List Addr} (S : ∀ a, avo Fb F a → H a ≠ none) {p : Addr} (h : H p = none) : ¬ avo Fb F p := fun z => absurd h (S p z)
theorem me_tup {x1} {m : Env → Res (List D)} (h : ML T Fb X es m) : ME T Fb X (.Tuple es x1 pos) (mTup m) := by
  refine ⟨fun σ H F ρ Q S o => (pe_tup pa_tw).tw ?_⟩
  refine h.run σ H F ρ _ S (o.bind.imp fun xs _ o1 vs H1 s1 r1 => ?_)
  by_cases hz : xs.length ≤ sizeLine
  · have o2 : ∀ v H', Same H H' → Rep (gx X T) H' (avo Fb F) (.tup xs) v → Q v H' := by
      have o1 : Out X T σ H (if xs.length ≤ sizeLine then Res.ok (D.tup xs) else .bad) _ := o1
      rw [if_pos hz] at o1
      exact o1
    refine ⟨by rw [r1.length]; exact hz, fun p hp => o2 _ _ (s1.trans (same_upd hp)) ⟨p, vs, rfl, .inl ⟨upd_same, avo_no (S.same s1).av hp⟩, r1.same (same_upd hp)⟩⟩
  · have o1 : Out X T σ H (if xs.length ≤ sizeLine then Res.ok (D.tup xs) else .bad) _ := o1
    rw [if_neg hz] at o1
    exact False.elim o1
def mLst (m : Env → Res (List D)) : Env → Res (List D) := fun ρ => m ρ >>= fun xs => if xs.length ≤ sizeLine then .ok xs else .bad
theorem mf_lst {m : Env → Res (List D)} (h : ML T Fb X es m) : MF T Fb X (.List es pos) (mLst m) := by
  refine ⟨fun σ H F ρ Q S o => (pe_lst pa_tw).tw ?_⟩
  refine h.run σ H F ρ _ S (o.bind.imp fun xs _ o1 vs H1 s1 r1 => ?_)
  by_cases hz : xs.length ≤ sizeLine
  · have o1 : Out X T σ H (if xs.length ≤ sizeLine then .ok xs else .bad) _ := o1
    rw [if_pos hz] at o1
    refine ⟨by rw [r1.length]; exact hz, fun p hp => o1 p vs _ (s1.free hp) (s1.trans (same_upd hp)) upd_same (r1.new hp)⟩
  · have o1 : Out X T σ H (if xs.length ≤ sizeLine then .ok xs else .bad) _ := o1
    rw [if_neg hz] at o1
    exact False.elim o1
end
end Cr
/-! Core, part 3: operators, comparisons, items, slices, calls. -/
namespace Cr
open PySem PySem.Spec PyProof.Rows L2
/-! ### mirrors of the operators -/
def mulOk (a b : Int) : Prop := CMul a b ∨ CMulW a b
instance (a b : Int) : Decidable (mulOk a b) := by unfold mulOk CMul CMulW; infer_instance
def divOk (a b : Int) : Prop := CDivW a b
instance (a b : Int) : Decidable (divOk a b) := by unfold divOk CDivW; infer_instance
def powOk (a b : Int) : Prop := CPow a b
instance (a b : Int) : Decidable (powOk a b) := by unfold powOk CPow; infer_instance
def addD : D → D → Res D
  | .int a, .int b => .ok (.int (a + b))
  | .str a, .str b => if a.length + b.length ≤ sizeLine then .ok (.str (a ++ b)) else .bad
  | .lst a, .lst b => if a.length + b.length ≤ sizeLine then .ok (.lst (a ++ b)) else .bad
  | .tup a, .tup b => if a ≠ [] ∧ b ≠ [] ∧ a.length + b.length ≤ sizeLine then .ok (.tup (a ++ b)) else .bad
  | _, _ => .bad
def subD : D → D → Res D
  | .int a, .int b => .ok (.int (a - b))
  | _, _ => .bad
def mulD : D → D → Res D
  | .int a, .int b => if mulOk a b then .ok (.int (a * b)) else .bad
  | .lst a, .int k => if -(2 ^ 63) ≤ k ∧ k < 2 ^ 63 ∧ a.length * k.toNat ≤ sizeLine then .ok (.lst (List.replicate k.toNat a).flatten) else .bad
  | _, _ => .bad
def fdivD : D → D → Res D
  | .int a, .int b => if divOk a b then .ok (.int (a / b)) else .bad
  | _, _ => .bad
def modD : D → D → Res D
  | .int a, .int b => if 0 < b then .ok (.int (a % b)) else .bad
  | _, _ => .bad
def powD : D → D → Res D
  | .int a, .int b => if powOk a b then .ok (.int (a ^ b.toNat)) else .bad
  | _, _ => .bad
def shlD : D → D → Res D
  | .int a, .int b => if powOk a b then .ok (.int (a * 2 ^ b.toNat)) else .bad
  | _, _ => .bad
def shrD : D → D → Res D
  | .int a, .int b => if 0 ≤ b then .ok (.int (a / 2 ^ b.toNat)) else .bad
  | _, _ => .bad
def bandD : D → D → Res D
  | .int a, .int b => .ok (.int (Builtin.bitAnd a b))
  | _, _ => .bad
def ltD : D → D → Res D
  | .int a, .int b => .ok (.bl (decide (a < b)))
  | _, _ => .bad
def leD : D → D → Res D
  | .int a, .int b => .ok (.bl (decide (a ≤ b)))
  | _, _ => .bad
def gtD : D → D → Res D
  | .int a, .int b => .ok (.bl (decide (b < a)))
  | _, _ => .bad
def geD : D → D → Res D
  | .int a, .int b => .ok (.bl (decide (b ≤ a)))
  | _, _ => .bad
def isNonD : D → D → Res D
  | .non, .non => .ok (.bl true)
  | _, .non => .ok (.bl false)
  | _, _ => .bad
def notNonD : D → D → Res D
  | .non, .non => .ok (.bl false)
  | _, .non => .ok (.bl true)
  | _, _ => .bad
mutual
def toPy : D → Option PyData
  | .non => some .none
  | .bl b => some (.bool b)
  | .int i => some (.int i)
  | .str x => some (.str x)
  | .tup ds => match toPys ds with
    | some ps => some (.tuple ps)
    | none => none
  | .lst ds => match toPys ds with
    | some ps => some (.list ps)
    | none => none
  | .obj _ _ => none
  | .scr _ => none
def toPys : List D → Option (List PyData)
  | [] => some []
  | d :: ds => match toPy d, toPys ds with
    | some p, some ps => some (p :: ps)
    | _, _ => none
end
def eqB : D → D → Res Bool
  | .int a, .int b => .ok (decide (a = b))
  | .str a, .str b => .ok (decide (a = b))
  | .bl a, .bl b => .ok (decide (a = b))
  | .non, .non => .ok true
  | x, y => match toPy x, toPy y with
    | some p, some q => if SeqAt.shaped p && SeqAt.shaped q then .ok (PyData.eqv p q) else .bad
    | _, _ => .bad
def eqD : D → D → Res D := fun x y => eqB x y >>= fun k => .ok (.bl k)
def neD : D → D → Res D := fun x y => eqB x y >>= fun k => .ok (.bl (!k))
def flatD : D → Option V
  | .non => some .non
  | .bl b => some (.bl b)
  | .int i => some (.int i)
  | .str x => some (.str x)
  | _ => none
def flats : List D → Option (List V)
  | [] => some []
  | d :: ds => match flatD d, flats ds with
    | some v, some vs => some (v :: vs)
    | _, _ => none
def inB : D → D → Res Bool
  | x, .lst ys => match flatD x, flats ys with
    | some v, some vs => .ok (inV v vs)
    | _, _ => .bad
  | x, .tup ys => match flatD x, flats ys with
    | some v, some vs => .ok (inV v vs)
    | _, _ => .bad
  | .str i, .str j => .ok (!(Builtin.Str.occurrences j i 0 j.length 1).isEmpty)
  | _, _ => .bad
def inD : D → D → Res D := fun x y => inB x y >>= fun k => .ok (.bl k)
def ninD : D → D → Res D := fun x y => inB x y >>= fun k => .ok (.bl (!k))
/-! ### the rules -/
section
variable {T : CT} {X : Cx}
theorem op_int {f : Value → Value → Sem Value} {C : Int → Int → Prop} [∀ i j, Decidable (C i j)] {gi : Int → Int → D} {gv : Int → Int → V} {g : D → D → Res D} (h : OpR X f (rI C gv)) (hg : ∀ i j H Av, Rep (gx X T) H Av (gi i j) (gv i j))
    (h1 : ∀ i j, g (.int i) (.int j) = if C i j then .ok (gi i j) else .bad) (h2 : ∀ x y d, g x y = .ok d → ∃ i j, x = .int i ∧ y = .int j) (h3 : ∀ x y e, g x y ≠ .err e) : OpM T X f g := by
  refine ⟨_, h, fun σ H Av dx dy x y Q hav rx ry o => ?_⟩
  cases e : g dx dy with
  | ok d =>
    obtain ⟨i, j, rfl, rfl⟩ := h2 _ _ _ e
    rw [h1] at e
    by_cases hc : C i j
    · rw [h1, if_pos hc] at o
      exact ⟨i, j, rx, ry, hc, o _ _ (Same.refl H) (hg _ _ _ _)⟩
    · rw [if_neg hc] at e; cases e
  | err z => exact absurd e (h3 _ _ _)
  | bad => rw [e] at o; exact False.elim o
theorem op_int0 {f : Value → Value → Sem Value} {gi : Int → Int → D} {gv : Int → Int → V} {g : D → D → Res D} (h : OpR X f (rI0 gv)) (hg : ∀ i j H Av, Rep (gx X T) H Av (gi i j) (gv i j))
    (h1 : ∀ i j, g (.int i) (.int j) = .ok (gi i j)) (h2 : ∀ x y d, g x y = .ok d → ∃ i j, x = .int i ∧ y = .int j) (h3 : ∀ x y e, g x y ≠ .err e) : OpM T X f g := by
  refine ⟨_, h, fun σ H Av dx dy x y Q hav rx ry o => ?_⟩
  cases e : g dx dy with
  | ok d =>
    obtain ⟨i, j, rfl, rfl⟩ := h2 _ _ _ e
    rw [h1] at o
    exact ⟨i, j, rx, ry, o _ _ (Same.refl H) (hg _ _ _ _)⟩
  | err z => exact absurd e (h3 _ _ _)
  | bad => rw [e] at o; exact False.elim o
theorem om_sub : OpM T X (binaryOp .Sub) subD := op_int0 (gi := fun i j => .int (i - j)) op_sub (fun _ _ _ _ => rfl) (fun _ _ => rfl) (fun x y d h => by cases x <;> cases y <;> first | exact ⟨_, _, rfl, rfl⟩ | (exact nomatch h)) (fun x y e h => by cases x <;> cases y <;> exact nomatch h)
theorem om_band : OpM T X (binaryOp .BitAnd) bandD := op_int0 (gi := fun i j => .int (Builtin.bitAnd i j)) op_and (fun _ _ _ _ => rfl) (fun _ _ => rfl) (fun x y d h => by cases x <;> cases y <;> first | exact ⟨_, _, rfl, rfl⟩ | (exact nomatch h)) (fun x y e h => by cases x <;> cases y <;> exact nomatch h)
theorem om_lt : OpM T X (compareOp .Lt) ltD := op_int0 (gi := fun i j => .bl (decide (i < j))) op_lt (fun _ _ _ _ => rfl) (fun _ _ => rfl) (fun x y d h => by cases x <;> cases y <;> first | exact ⟨_, _, rfl, rfl⟩ | (exact nomatch h)) (fun x y e h => by cases x <;> cases y <;> exact nomatch h)
theorem om_le : OpM T X (compareOp .LtE) leD := op_int0 (gi := fun i j => .bl (decide (i ≤ j))) op_le (fun _ _ _ _ => rfl) (fun _ _ => rfl) (fun x y d h => by cases x <;> cases y <;> first | exact ⟨_, _, rfl, rfl⟩ | (exact nomatch h)) (fun x y e h => by cases x <;> cases y <;> exact nomatch h)
theorem om_gt : OpM T X (compareOp .Gt) gtD := op_int0 (gi := fun i j => .bl (decide (j < i))) op_gt (fun _ _ _ _ => rfl) (fun _ _ => rfl) (fun x y d h => by cases x <;> cases y <;> first | exact ⟨_, _, rfl, rfl⟩ | (exact nomatch h)) (fun x y e h => by cases x <;> cases y <;> exact nomatch h)
theorem om_ge : OpM T X (compareOp .GtE) geD := op_int0 (gi := fun i j => .bl (decide (j ≤ i))) op_ge (fun _ _ _ _ => rfl) (fun _ _ => rfl) (fun x y d h => by cases x <;> cases y <;> first | exact ⟨_, _, rfl, rfl⟩ | (exact nomatch h)) (fun x y e h => by cases x <;> cases y <;> exact nomatch h)
theorem om_fdiv : OpM T X (binaryOp .FloorDiv) fdivD := by
  refine op_int (C := divOk) (gi := fun i j => .int (i / j)) op_fdivW (fun _ _ _ _ => rfl) (fun _ _ => rfl) (fun x y d h => ?_) (fun x y e h => ?_)
  · cases x <;> cases y <;> first | exact ⟨_, _, rfl, rfl⟩ | (exact nomatch h)
  · cases x <;> cases y <;> first | (cases h; done) | (simp only [fdivD] at h; split at h <;> cases h)
theorem om_mod : OpM T X (binaryOp .Mod) modD := by
  refine op_int (C := fun _ j => 0 < j) (gi := fun i j => .int (i % j)) op_mod (fun _ _ _ _ => rfl) (fun _ _ => rfl) (fun x y d h => ?_) (fun x y e h => ?_)
  · cases x <;> cases y <;> first | exact ⟨_, _, rfl, rfl⟩ | (exact nomatch h)
  · cases x <;> cases y <;> first | (cases h; done) | (simp only [modD] at h; split at h <;> cases h)
theorem om_pow : OpM T X (binaryOp .Pow) powD := by
  refine op_int (C := powOk) (gi := fun i j => .int (i ^ j.toNat)) op_pow (fun _ _ _ _ => rfl) (fun _ _ => rfl) (fun x y d h => ?_) (fun x y e h => ?_)
  · cases x <;> cases y <;> first | exact ⟨_, _, rfl, rfl⟩ | (exact nomatch h)
  · cases x <;> cases y <;> first | (cases h; done) | (simp only [powD] at h; split at h <;> cases h)
theorem om_shl : OpM T X (binaryOp .LShift) shlD := by
  refine op_int (C := powOk) (gi := fun i j => .int (i * 2 ^ j.toNat)) op_shl (fun _ _ _ _ => rfl) (fun _ _ => rfl) (fun x y d h => ?_) (fun x y e h => ?_)
  · cases x <;> cases y <;> first | exact ⟨_, _, rfl, rfl⟩ | (exact nomatch h)
  · cases x <;> cases y <;> first | (cases h; done) | (simp only [shlD] at h; split at h <;> cases h)
theorem om_shr : OpM T X (binaryOp .RShift) shrD := by
  refine op_int (C := fun _ j => 0 ≤ j) (gi := fun i j => .int (i / 2 ^ j.toNat)) op_shr (fun _ _ _ _ => rfl) (fun _ _ => rfl) (fun x y d h => ?_) (fun x y e h => ?_)
  · cases x <;> cases y <;> first | exact ⟨_, _, rfl, rfl⟩ | (exact nomatch h)
  · cases x <;> cases y <;> first | (cases h; done) | (simp only [shrD] at h; split at h <;> cases h)
/-- a result where a condition holds -/
theorem Out.if {α : Type} {σ : L2.St} {H : Hp} {c : Prop} [Decidable c] {a : α} {P : α → Prop} (h : Out X T σ H (if c then .ok a else .bad) P) : c ∧ P a := by
  by_cases hc : c
  · rw [if_pos hc] at h; exact ⟨hc, h⟩
  · rw [if_neg hc] at h; exact False.elim h
theorem tup_sq {G : Gx} {H : Hp} {Av : Addr → Prop} {a : Addr} {vs : List V} (h : (H a = some (.tup vs) ∧ ¬ Av a) ∨ KTup G.K a vs) : SqT G.K H a vs := by
  rcases h with h | h
  · exact .inl (.inl h.1)
  · exact .inr h
theorem RepL.ne_nil {G : Gx} {H : Hp} {Av : Addr → Prop} {ds : List D} {vs : List V} (h : RepL G H Av ds vs) (n : ds ≠ []) : vs ≠ [] := fun e => by
  have := h.length
  rw [e] at this
  cases ds with
  | nil => exact n rfl
  | cons _ _ => simp at this
theorem om_add : OpM T X (binaryOp .Add) addD := by
  refine ⟨_, (op_add.or (op_add_str.or (op_cat.or op_catT))), fun σ H Av dx dy x y Q hav rx ry o => ?_⟩
  cases dx <;> cases dy <;> try exact False.elim o
  · exact .inl ⟨_, _, rx, ry, o _ _ (Same.refl H) rfl⟩
  · obtain ⟨hz, f⟩ := o.if
    exact .inr (.inl ⟨_, _, rx, ry, hz, f _ _ (Same.refl H) rfl⟩)
  · obtain ⟨⟨n1, n2, hz⟩, f⟩ := o.if
    obtain ⟨a, vs, rfl, ha, rv⟩ := rx
    obtain ⟨b, ws, rfl, hb, rw'⟩ := ry
    refine .inr (.inr (.inr ⟨a, b, vs, ws, rfl, rfl, tup_sq ha, tup_sq hb, rv.ne_nil n1, by rw [rv.length, rw'.length]; exact hz, fun e => absurd e (rw'.ne_nil n2), fun _ p hp => ?_⟩))
    have s := same_upd (o := .tup (vs ++ ws)) hp
    exact f _ _ s ⟨p, _, rfl, .inl ⟨upd_same, fun z => absurd hp (hav p z)⟩, (rv.same s).append (rw'.same s)⟩
  · obtain ⟨hz, f⟩ := o.if
    obtain ⟨a, vs, rfl, ha, rv⟩ := rx
    obtain ⟨b, ws, rfl, hb, rw'⟩ := ry
    refine .inr (.inr (.inl ⟨a, b, vs, ws, rfl, rfl, ha, hb, by rw [rv.length, rw'.length]; exact hz, fun p hp => ?_⟩))
    have s := same_upd (o := .lst (vs ++ ws)) hp
    exact f _ _ s ⟨p, _, rfl, ⟨upd_same, fun z => absurd hp (hav p z)⟩, (rv.same s).append (rw'.same s)⟩
theorem om_mul : OpM T X (binaryOp .Mult) mulD := by
  refine ⟨_, ((op_mul.or op_mulW).or op_rep), fun σ H Av dx dy x y Q hav rx ry o => ?_⟩
  cases dx <;> cases dy <;> try exact False.elim o
  · obtain ⟨hz, f⟩ := o.if
    rcases hz with hz | hz
    · exact .inl (.inl ⟨_, _, rx, ry, hz, f _ _ (Same.refl H) rfl⟩)
    · exact .inl (.inr ⟨_, _, rx, ry, hz, f _ _ (Same.refl H) rfl⟩)
  · rename_i ls k
    obtain ⟨⟨h1, h2, h3⟩, f⟩ := o.if
    obtain ⟨a, vs, rfl, ha, rv⟩ := rx
    refine .inr ⟨a, _, vs, rfl, ry, ha, h1, h2, by rw [rv.length]; exact h3, fun p hp => ?_⟩
    have s := same_upd (o := .lst (List.replicate (Int.toNat k) vs).flatten) hp
    exact f _ _ s ⟨p, _, rfl, ⟨upd_same, fun z => absurd hp (hav p z)⟩, (rv.same s).rep _⟩
theorem om_is : OpM T X (compareOp .Is) isNonD := by
  refine ⟨_, op_isN, fun σ H Av dx dy x y Q hav rx ry o => ?_⟩
  cases dy with
  | non =>
    refine ⟨ry, ?_⟩
    cases dx with
    | non => have rx : x = V.non := rx; rw [rx]; exact o _ _ (Same.refl H) rfl
    | bl b => have rx : x = V.bl b := rx; rw [rx]; exact o _ _ (Same.refl H) rfl
    | int b => have rx : x = V.int b := rx; rw [rx]; exact o _ _ (Same.refl H) rfl
    | str b => have rx : x = V.str b := rx; rw [rx]; exact o _ _ (Same.refl H) rfl
    | tup ds => obtain ⟨a, _, e, _⟩ := rx; rw [e]; exact o _ _ (Same.refl H) rfl
    | lst ds => obtain ⟨a, _, e, _⟩ := rx; rw [e]; exact o _ _ (Same.refl H) rfl
    | obj c ds => obtain ⟨a, _, _, e, _⟩ := rx; rw [e]; exact o _ _ (Same.refl H) rfl
    | scr ds => obtain ⟨a, e, _⟩ := rx; rw [e]; exact o _ _ (Same.refl H) rfl
  | _ => cases dx <;> exact False.elim o
theorem om_isnot : OpM T X (compareOp .IsNot) notNonD := by
  refine ⟨_, op_notN, fun σ H Av dx dy x y Q hav rx ry o => ?_⟩
  cases dy with
  | non =>
    refine ⟨ry, ?_⟩
    cases dx with
    | non => have rx : x = V.non := rx; rw [rx]; exact o _ _ (Same.refl H) rfl
    | bl b => have rx : x = V.bl b := rx; rw [rx]; exact o _ _ (Same.refl H) rfl
    | int b => have rx : x = V.int b := rx; rw [rx]; exact o _ _ (Same.refl H) rfl
    | str b => have rx : x = V.str b := rx; rw [rx]; exact o _ _ (Same.refl H) rfl
    | tup ds => obtain ⟨a, _, e, _⟩ := rx; rw [e]; exact o _ _ (Same.refl H) rfl
    | lst ds => obtain ⟨a, _, e, _⟩ := rx; rw [e]; exact o _ _ (Same.refl H) rfl
    | obj c ds => obtain ⟨a, _, _, e, _⟩ := rx; rw [e]; exact o _ _ (Same.refl H) rfl
    | scr ds => obtain ⟨a, e, _⟩ := rx; rw [e]; exact o _ _ (Same.refl H) rfl
  | _ => cases dx <;> exact False.elim o
/-! ### == -/
mutual
theorem toPy_dp {G : Gx} {H : Hp} {Av : Addr → Prop} : ∀ (d : D) {v : V} {p : PyData}, RepB G H Av d v → toPy d = some p → Dp G.K H v p
  | .non, v, p, r, e => by cases e; have r : v = V.non := r; rw [r]; exact .non
  | .bl b, v, p, r, e => by cases e; have r : v = V.bl b := r; rw [r]; exact .bl b
  | .int b, v, p, r, e => by cases e; have r : v = V.int b := r; rw [r]; exact .int b
  | .str b, v, p, r, e => by cases e; have r : v = V.str b := r; rw [r]; exact .str b
  | .tup ds, v, p, r, e => by
    obtain ⟨a, vs, rfl, h1, h2⟩ := r
    rw [toPy] at e
    cases q : toPys ds with
    | none => rw [q] at e; cases e
    | some ps => rw [q] at e; cases e; exact .tup (tup_sq h1) (toPys_dp ds h2 q)
  | .lst ds, v, p, r, e => by
    obtain ⟨a, vs, rfl, h1, h2⟩ := r
    rw [toPy] at e
    cases q : toPys ds with
    | none => rw [q] at e; cases e
    | some ps => rw [q] at e; cases e; exact .lst (SqL.of h1) (toPys_dp ds h2 q)
  | .obj c ds, v, p, r, e => by rw [toPy] at e; cases e
  | .scr ds, v, p, r, e => by rw [toPy] at e; cases e
theorem toPys_dp {G : Gx} {H : Hp} {Av : Addr → Prop} : ∀ (ds : List D) {vs : List V} {ps : List PyData}, RepL G H Av ds vs → toPys ds = some ps → DpAll G.K H vs ps
  | [], vs, ps, r, e => by
    rw [toPys] at e; cases e
    have r : vs = [] := r
    rw [r]; exact .nil
  | d :: ds, vs, ps, r, e => by
    obtain ⟨v, vr, rfl, r1, r2⟩ := r
    rw [toPys] at e
    cases q : toPy d with
    | none => rw [q] at e; cases e
    | some p =>
      cases q2 : toPys ds with
      | none => rw [q, q2] at e; cases e
      | some ps' => rw [q, q2] at e; cases e; exact .cons (toPy_dp d r1.b q) (toPys_dp ds r2 q2)
end
theorem eq_core {σ : L2.St} {H : Hp} {Av : Addr → Prop} {dx dy : D} {x y : V} {P : Bool → Prop} (rx : RepB (gx X T) H Av dx x) (ry : RepB (gx X T) H Av dy y) (o : Out X T σ H (eqB dx dy) P) :
    (scal x y = true ∧ P (decide (x = y))) ∨ ∃ d e, Dp X.K H x d ∧ Dp X.K H y e ∧ SeqAt.shaped d = true ∧ SeqAt.shaped e = true ∧ P (PyData.eqv d e) := by
  have gen : ∀ {r : Res Bool}, r = (match toPy dx, toPy dy with
    | some p, some q => if SeqAt.shaped p && SeqAt.shaped q then .ok (PyData.eqv p q) else .bad
    | _, _ => .bad) → Out X T σ H r P → ∃ d e, Dp X.K H x d ∧ Dp X.K H y e ∧ SeqAt.shaped d = true ∧ SeqAt.shaped e = true ∧ P (PyData.eqv d e) := by
    intro r e o
    subst e
    cases q1 : toPy dx with
    | none => rw [q1] at o; exact False.elim o
    | some p =>
      cases q2 : toPy dy with
      | none => rw [q1, q2] at o; exact False.elim o
      | some q =>
        rw [q1, q2] at o
        have o : Out X T σ H (if (SeqAt.shaped p && SeqAt.shaped q) = true then .ok (PyData.eqv p q) else .bad) P := o
        obtain ⟨hc, f⟩ := o.if
        rw [Bool.and_eq_true] at hc
        exact ⟨p, q, toPy_dp (G := gx X T) dx rx q1, toPy_dp (G := gx X T) dy ry q2, hc.1, hc.2, f⟩
  cases dx <;> cases dy <;> first
    | exact .inr (gen rfl o)
    | (left
       have rx : x = _ := rx
       have ry : y = _ := ry
       rw [rx, ry]
       refine ⟨rfl, ?_⟩
       have o : P _ := o
       simpa using o)
theorem om_eq (hu : X.A.units + 64 < cLine) : OpM T X (compareOp .Eq) eqD := by
  refine ⟨_, (op_eq.or (op_eqD hu)), fun σ H Av dx dy x y Q hav rx ry o => ?_⟩
  rcases eq_core rx ry o.bind with ⟨h1, h2⟩ | ⟨d, e, h1, h2, h3, h4, h5⟩
  · exact .inl ⟨h1, h2 _ _ (Same.refl H) rfl⟩
  · exact .inr ⟨d, e, h1, h2, h3, h4, h5 _ _ (Same.refl H) rfl⟩
theorem om_ne (hu : X.A.units + 64 < cLine) : OpM T X (compareOp .NotEq) neD := by
  refine ⟨_, (op_ne.or (op_neD hu)), fun σ H Av dx dy x y Q hav rx ry o => ?_⟩
  rcases eq_core rx ry o.bind with ⟨h1, h2⟩ | ⟨d, e, h1, h2, h3, h4, h5⟩
  · exact .inl ⟨h1, h2 _ _ (Same.refl H) rfl⟩
  · exact .inr ⟨d, e, h1, h2, h3, h4, h5 _ _ (Same.refl H) rfl⟩
/-! ### in -/
theorem flatD_rep {G : Gx} {H : Hp} {Av : Addr → Prop} {d : D} {v w : V} (r : Rep G H Av d v) (e : flatD d = some w) : v = w ∧ flatV w = true := by
  cases d <;> first | (cases e; exact ⟨r, rfl⟩) | (exact nomatch e)
theorem flats_rep {G : Gx} {H : Hp} {Av : Addr → Prop} : ∀ {ds : List D} {vs ws : List V}, RepL G H Av ds vs → flats ds = some ws → vs = ws ∧ ws.all flatV = true
  | [], vs, ws, r, e => by cases e; exact ⟨r, rfl⟩
  | d :: ds, vs, ws, r, e => by
    obtain ⟨v, vr, rfl, r1, r2⟩ := r
    unfold flats at e
    cases q : flatD d with
    | none => rw [q] at e; cases e
    | some u =>
      cases q2 : flats ds with
      | none => rw [q, q2] at e; cases e
      | some us =>
        rw [q, q2] at e
        cases e
        obtain ⟨e1, f1⟩ := flatD_rep r1 q
        obtain ⟨e2, f2⟩ := flats_rep r2 q2
        rw [e1, e2]
        exact ⟨rfl, by rw [List.all_cons, f1, f2]; rfl⟩
theorem in_core {σ : L2.St} {H : Hp} {Av : Addr → Prop} {dx dy : D} {x y : V} {P : Bool → Prop} (rx : RepB (gx X T) H Av dx x) (ry : RepB (gx X T) H Av dy y) (o : Out X T σ H (inB dx dy) P) :
    (∃ p xs, y = .ref p ∧ (SqL X.K H p xs ∨ SqT X.K H p xs) ∧ flatV x = true ∧ xs.all flatV = true ∧ P (inV x xs)) ∨ ∃ i j, x = .str i ∧ y = .str j ∧ P (!(Builtin.Str.occurrences j i 0 j.length 1).isEmpty) := by
  have gen : ∀ {ys : List D} {vs : List V}, RepL (gx X T) H Av ys vs → Out X T σ H (match flatD dx, flats ys with
      | some v, some vs => .ok (inV v vs)
      | _, _ => .bad) P → flatV x = true ∧ vs.all flatV = true ∧ P (inV x vs) := by
    intro ys vs r o
    cases q : flatD dx with
    | none => rw [q] at o; exact False.elim o
    | some u =>
      cases q2 : flats ys with
      | none => rw [q, q2] at o; exact False.elim o
      | some us =>
        rw [q, q2] at o
        have rx' : Rep (gx X T) H Av dx x := by
          cases dx <;> first | exact rx | (exact nomatch q)
        obtain ⟨e1, f1⟩ := flatD_rep rx' q
        obtain ⟨e2, f2⟩ := flats_rep r q2
        rw [e1, e2]
        exact ⟨f1, f2, o⟩
  cases dy with
  | lst ys =>
    obtain ⟨a, vs, rfl, h1, h2⟩ := ry
    have o : Out X T σ H (match flatD dx, flats ys with
      | some v, some vs => .ok (inV v vs)
      | _, _ => .bad) P := by cases dx <;> exact o
    obtain ⟨f1, f2, f3⟩ := gen h2 o
    exact .inl ⟨a, vs, rfl, .inl (SqL.of h1), f1, f2, f3⟩
  | tup ys =>
    obtain ⟨a, vs, rfl, h1, h2⟩ := ry
    have o : Out X T σ H (match flatD dx, flats ys with
      | some v, some vs => .ok (inV v vs)
      | _, _ => .bad) P := by cases dx <;> exact o
    obtain ⟨f1, f2, f3⟩ := gen h2 o
    exact .inl ⟨a, vs, rfl, .inr (tup_sq h1), f1, f2, f3⟩
  | str j =>
    cases dx with
    | str i => exact .inr ⟨i, j, rx, ry, o⟩
    | _ => exact False.elim o
  | _ => cases dx <;> exact False.elim o
theorem om_in : OpM T X (compareOp .In) inD := by
  refine ⟨_, (op_in_seq.or op_in_str), fun σ H Av dx dy x y Q hav rx ry o => ?_⟩
  rcases in_core rx ry o.bind with ⟨p, xs, h1, h2, h3, h4, h5⟩ | ⟨i, j, h1, h2, h3⟩
  · exact .inl ⟨p, xs, h1, h2, h3, h4, h5 _ _ (Same.refl H) rfl⟩
  · exact .inr ⟨i, j, h1, h2, h3 _ _ (Same.refl H) rfl⟩
theorem om_notin : OpM T X (compareOp .NotIn) ninD := by
  refine ⟨_, (op_notIn_seq.or op_notIn_str), fun σ H Av dx dy x y Q hav rx ry o => ?_⟩
  rcases in_core rx ry o.bind with ⟨p, xs, h1, h2, h3, h4, h5⟩ | ⟨i, j, h1, h2, h3⟩
  · exact .inl ⟨p, xs, h1, h2, h3, h4, h5 _ _ (Same.refl H) rfl⟩
  · exact .inr ⟨i, j, h1, h2, h3 _ _ (Same.refl H) rfl⟩
end
end Cr
/-! Core, part 4: items, slices, built-ins, own defs, methods, instances. -/
namespace Cr
open PySem PySem.Spec PyProof.Rows L2
section
variable {T : CT} {Fb : Gh} {X : Cx} {e a b c : Expr} {es : List Expr} {m ma mb mc : Env → Res D} {pos : Pos}
/-! ### -x -/
def negD : D → Res D
  | .int i => .ok (.int (-i))
  | _ => .bad
def mUn (g : D → Res D) (ma : Env → Res D) : Env → Res D := fun ρ => ma ρ >>= g
theorem me_neg (ha : MB T Fb X a ma) : ME T Fb X (.UnaryOp .USub a pos) (mUn negD ma) := by
  refine ⟨fun σ H F ρ Q S o => (pe_un un_neg pe_tw).tw ?_⟩
  refine ha.run σ H F ρ _ S (o.bind.imp fun d _ o1 v H1 s r => ?_)
  cases d with
  | int i => exact ⟨i, r, o1 _ _ s rfl⟩
  | _ => exact False.elim o1
/-! ### items -/
def opt {α : Type} : Option α → Res α
  | some a => .ok a
  | none => .bad
def idxD : D → D → Res D
  | .lst xs, .int i => opt (atI xs i)
  | .tup xs, .int i => opt (atI xs i)
  | .scr ns, .int i => opt ((atI ns i).map .int)
  | .str z, .int i => if z.length ≤ sizeLine then opt ((atI z.cps.toList i).map fun c => .str ⟨#[c]⟩) else .bad
  | _, _ => .bad
theorem RepL.atI {G : Gx} {H : Hp} {Av : Addr → Prop} {ds : List D} {vs : List V} {i : Int} {d : D} (r : RepL G H Av ds vs) (h : L2.atI ds i = some d) : ∃ v, L2.atI vs i = some v ∧ Rep G H Av d v := by
  unfold L2.atI at h ⊢
  rw [r.length]
  cases q : ixN ds.length i with
  | none => rw [q] at h; cases h
  | some j =>
    rw [q] at h
    exact r.get (i := j) h
theorem atI_map {α β : Type} (f : α → β) (xs : List α) (i : Int) : L2.atI (xs.map f) i = (L2.atI xs i).map f := by
  unfold L2.atI
  rw [List.length_map]
  cases ixN xs.length i with
  | none => rfl
  | some j => show (xs.map f)[j]? = (xs[j]?).map f; rw [List.getElem?_map]
theorem scr_sq {G : Gx} {H : Hp} {Av : Addr → Prop} {a : Addr} {vs : List V} (h : (Rd H a (.lst vs) ∧ ¬ Av a) ∨ KLst G.K a vs) : SqL G.K H a vs := by
  rcases h with h | h
  · exact .inl h.1
  · exact .inr h
theorem Out.opt {α : Type} {σ : L2.St} {H : Hp} {x : Option α} {P : α → Prop} (h : Out X T σ H (Cr.opt x) P) : ∃ a, x = some a ∧ P a := by
  cases x with
  | none => exact False.elim h
  | some a => exact ⟨a, rfl, h⟩
theorem me_ix (ha : MB T Fb X a ma) (hb : MB T Fb X b mb) (hs : PlainIx b := by exact fun _ _ => rfl) : ME T Fb X (.Subscript a b pos) (mBin idxD ma mb) := by
  refine ⟨fun σ H F ρ Q S o => (pe_ix ix_seq pe_tw pe_tw hs).tw ?_⟩
  refine ha.run σ H F ρ _ S (o.bind.imp fun x _ o1 v H1 s1 r1 => ?_)
  refine hb.run σ H1 F ρ _ (S.same s1) ((o1.same s1).bind.imp fun y _ o2 u H2 s2 r2 => ?_)
  have r1 := r1.same s2
  have s12 := s1.trans s2
  cases y with
  | int i =>
    have r2 : u = V.int i := r2
    cases x with
    | lst xs =>
      obtain ⟨d, e, f⟩ := o2.opt
      obtain ⟨p, vs, rfl, h1, h2⟩ := r1
      obtain ⟨w, e2, r⟩ := h2.atI e
      exact .inl ⟨p, vs, i, w, rfl, r2, SqL.of h1, e2, f _ _ s12 r⟩
    | tup xs =>
      obtain ⟨d, e, f⟩ := o2.opt
      obtain ⟨p, vs, rfl, h1, h2⟩ := r1
      obtain ⟨w, e2, r⟩ := h2.atI e
      exact .inr (.inl ⟨p, vs, i, w, rfl, r2, tup_sq h1, e2, f _ _ s12 r⟩)
    | scr ns =>
      obtain ⟨d, e, f⟩ := o2.opt
      obtain ⟨p, rfl, h1⟩ := r1
      cases q : L2.atI ns i with
      | none => rw [q] at e; cases e
      | some n =>
        rw [q] at e; cases e
        exact .inl ⟨p, ns.map V.int, i, V.int n, rfl, r2, scr_sq h1, by rw [atI_map, q]; rfl, f _ _ s12 rfl⟩
    | str z =>
      obtain ⟨hz, o3⟩ : z.length ≤ sizeLine ∧ Out X T σ H1 (opt ((L2.atI z.cps.toList i).map fun c => D.str ⟨#[c]⟩)) _ := by
        have o2 : Out X T σ H1 (if z.length ≤ sizeLine then opt ((L2.atI z.cps.toList i).map fun c => D.str ⟨#[c]⟩) else .bad) _ := o2
        by_cases hz : z.length ≤ sizeLine
        · rw [if_pos hz] at o2; exact ⟨hz, o2⟩
        · rw [if_neg hz] at o2; exact False.elim o2
      obtain ⟨d, e, f⟩ := o3.opt
      cases q : L2.atI z.cps.toList i with
      | none => rw [q] at e; cases e
      | some n =>
        rw [q] at e; cases e
        have r1 : v = V.str z := r1
        exact .inr (.inr ⟨z, i, n, r1, r2, hz, q, f _ _ s12 rfl⟩)
    | _ => exact False.elim o2
  | _ => cases x <;> exact False.elim o2
/-! ### slices -/
structure MO (T : CT) (Fb : Gh) (X : Cx) (e : Option Expr) (m : Env → Res (Option Int)) : Prop where
  ex : ∃ t : TO, PO X e t ∧ ∀ (σ : L2.St) (H : Hp) (F : List Addr) (ρ : Env) (Q : Option Int → Hp → Prop), StR (gx X T) Fb H σ ρ F →
    Out X T σ H (m ρ) (fun o => ∀ H', Same H H' → Q o H') → t σ H Q
def mNo : Env → Res (Option Int) := fun _ => .ok none
def intO : D → Res (Option Int)
  | .int i => .ok (some i)
  | _ => .bad
def mPart (m : Env → Res D) : Env → Res (Option Int) := fun ρ => m ρ >>= intO
theorem mo_none : MO T Fb X none mNo := ⟨_, po_none, fun σ H F ρ Q S o => o H (Same.refl H)⟩
theorem mo_some (h : MB T Fb X e m) : MO T Fb X (some e) (mPart m) := by
  refine ⟨_, po_some pe_tw, fun σ H F ρ Q S o => ?_⟩
  refine h.run σ H F ρ _ S (o.bind.imp fun d _ o1 v H1 s r => ?_)
  cases d with
  | int i => exact ⟨i, r, o1 _ s⟩
  | _ => exact False.elim o1
def cutG {α : Type} (xs : List α) (lo hi : Option Int) : List α := (xs.drop (HT.sIx xs.length 0 lo)).take (HT.sIx xs.length xs.length hi - HT.sIx xs.length 0 lo)
theorem RepL.cut {G : Gx} {H : Hp} {Av : Addr → Prop} {ds : List D} {vs : List V} (r : RepL G H Av ds vs) (lo hi : Option Int) : RepL G H Av (cutG ds lo hi) (cutV vs lo hi) := by
  unfold cutG cutV
  rw [r.length]
  exact (r.drop _).take _
def cutL : D → Option Int → Option Int → Res (List D)
  | .lst xs, lo, hi => .ok (cutG xs lo hi)
  | _, _, _ => .bad
def cutD : D → Option Int → Option Int → Res D
  | .lst xs, lo, hi => .ok (.lst (cutG xs lo hi))
  | .tup xs, lo, hi => if ¬ (HT.sIx xs.length 0 lo = 0 ∧ HT.sIx xs.length xs.length hi = xs.length) then .ok (.tup (cutG xs lo hi)) else .bad
  | .str z, lo, hi => if z.length ≤ sizeLine then .ok (.str (cutS z lo hi)) else .bad
  | _, _, _ => .bad
def mSl {α : Type} (g : D → Option Int → Option Int → Res α) (ma : Env → Res D) (ml mh : Env → Res (Option Int)) : Env → Res α := fun ρ => ma ρ >>= fun x => ml ρ >>= fun l => mh ρ >>= fun h => g x l h
variable {lo hi : Option Expr} {ml mh : Env → Res (Option Int)} {p2 : Pos}
theorem mf_slice (ha : MB T Fb X a ma) (hl : MO T Fb X lo ml) (hh : MO T Fb X hi mh) : MF T Fb X (.Subscript a (.Slice lo hi none p2) pos) (mSl cutL ma ml mh) := by
  obtain ⟨tl, pl, fl⟩ := hl.ex
  obtain ⟨th, ph, fh⟩ := hh.ex
  refine ⟨fun σ H F ρ Q S o => (pe_slice sl_list pe_tw pl ph).tw ?_⟩
  refine ha.run σ H F ρ _ S (o.bind.imp fun x _ o1 v H1 s1 r1 => ?_)
  refine fl σ H1 F ρ _ (S.same s1) ((o1.same s1).bind.imp fun l _ o2 H2 s2 => ?_)
  refine fh σ H2 F ρ _ ((S.same s1).same s2) ((o2.same s2).bind.imp fun h _ o3 H3 s3 => ?_)
  cases x with
  | lst xs =>
    obtain ⟨p, vs, rfl, h1, h2⟩ := (r1.same s2).same s3
    refine ⟨p, vs, rfl, SqL.of h1, fun q hq => ?_⟩
    have s := same_upd (o := .lst (cutV vs l h)) hq
    exact o3 q _ _ ((s1.trans (s2.trans s3)).free hq) ((s1.trans (s2.trans s3)).trans s) upd_same ((h2.cut l h).new hq)
  | _ => exact False.elim o3
theorem me_slice (ha : MB T Fb X a ma) (hl : MO T Fb X lo ml) (hh : MO T Fb X hi mh) : ME T Fb X (.Subscript a (.Slice lo hi none p2) pos) (mSl cutD ma ml mh) := by
  obtain ⟨tl, pl, fl⟩ := hl.ex
  obtain ⟨th, ph, fh⟩ := hh.ex
  refine ⟨fun σ H F ρ Q S o => (pe_slice (sl_list.or (sl_tup.or sl_str)) pe_tw pl ph).tw ?_⟩
  refine ha.run σ H F ρ _ S (o.bind.imp fun x _ o1 v H1 s1 r1 => ?_)
  refine fl σ H1 F ρ _ (S.same s1) ((o1.same s1).bind.imp fun l _ o2 H2 s2 => ?_)
  refine fh σ H2 F ρ _ ((S.same s1).same s2) ((o2.same s2).bind.imp fun h _ o3 H3 s3 => ?_)
  have S3 := ((S.same s1).same s2).same s3
  have s := s1.trans (s2.trans s3)
  have r1 := (r1.same s2).same s3
  cases x with
  | lst xs =>
    obtain ⟨p, vs, rfl, h1, h2⟩ := r1
    refine .inl ⟨p, vs, rfl, SqL.of h1, fun q hq => ?_⟩
    have s' := same_upd (o := .lst (cutV vs l h)) hq
    exact o3 _ _ (s.trans s') ⟨q, _, rfl, ⟨upd_same, avo_no S3.av hq⟩, (h2.cut l h).same s'⟩
  | tup xs =>
    obtain ⟨hc, f⟩ := o3.if
    obtain ⟨p, vs, rfl, h1, h2⟩ := r1
    refine .inr (.inl ⟨p, vs, rfl, tup_sq h1, by rw [h2.length]; exact hc, fun q hq => ?_⟩)
    have s' := same_upd (o := .tup (cutV vs l h)) hq
    exact f _ _ (s.trans s') ⟨q, _, rfl, .inl ⟨upd_same, avo_no S3.av hq⟩, (h2.cut l h).same s'⟩
  | str z =>
    obtain ⟨hc, f⟩ := o3.if
    have r1 : v = V.str z := r1
    exact .inr (.inr ⟨z, r1, hc, f _ _ s rfl⟩)
  | _ => exact False.elim o3
def revL : D → Res (List D)
  | .lst xs => .ok xs.reverse
  | _ => .bad
def mUnF (g : D → Res (List D)) (ma : Env → Res D) : Env → Res (List D) := fun ρ => ma ρ >>= g
theorem mf_rev {k : Nat} {p1 p2 p3 : Pos} (ha : MB T Fb X a ma) : MF T Fb X (.Subscript a (.Slice none none (some (.UnaryOp .USub (.Constant (.int 1) k p1) p2)) p3) pos) (mUnF revL ma) := by
  refine ⟨fun σ H F ρ Q S o => (pe_revL pe_tw).tw ?_⟩
  refine ha.run σ H F ρ _ S (o.bind.imp fun x _ o1 v H1 s1 r1 => ?_)
  cases x with
  | lst xs =>
    obtain ⟨p, vs, rfl, h1, h2⟩ := r1
    refine ⟨p, vs, rfl, SqL.of h1, fun q hq => ?_⟩
    have s := same_upd (o := .lst vs.reverse) hq
    exact o1 q _ _ (s1.free hq) (s1.trans s) upd_same (h2.reverse.new hq)
  | _ => exact False.elim o1
/-! ### built-ins by values -/
structure CallM (T : CT) (X : Cx) (f : Value) (g : List D → Res D) : Prop where
  ex : ∃ r : List V → Hp → VK → Prop, CallR X f r ∧ ∀ (σ : L2.St) (H : Hp) (Av : Addr → Prop) (ds : List D) (vs : List V) (Q : VK), (∀ a, Av a → H a ≠ none) → Paired (RepB (gx X T) H Av) ds vs →
    Out X T σ H (g ds) (fun d => ∀ v H', Same H H' → Rep (gx X T) H' Av d v → Q v H') → r vs H Q
structure CallF (T : CT) (X : Cx) (f : Value) (g : List D → Res (List D)) : Prop where
  ex : ∃ r : List V → Hp → VK → Prop, CallR X f r ∧ ∀ (σ : L2.St) (H : Hp) (Av : Addr → Prop) (ds : List D) (vs : List V) (Q : VK), (∀ a, Av a → H a ≠ none) → Paired (RepB (gx X T) H Av) ds vs →
    Out X T σ H (g ds) (fun xs => ∀ p vs H', H p = none → Same H H' → H' p = some (.lst vs) → RepL (gx X T) H' (fun a => a = p ∨ Av a) xs vs → Q (.ref p) H') → r vs H Q
def mArg {α : Type} (g : List D → Res α) (m : Env → Res (List D)) : Env → Res α := fun ρ => m ρ >>= g
variable {x : Str} {p : Pos} {bid ty : String}
theorem me_bi {g : List D → Res D} {mr : Env → Res (List D)} (hf : CallM T X (.builtin bid) g) (hm : X.mg x = none) (hv : bootBuiltins x = some (.builtin bid)) (ha : MLb T Fb X (e :: es) mr) (hg : Gl X x := by rfl) (hn : x ≠ "__name__" := by decide) (hdb : (x == ("__debug__" : Str)) = false := by decide)
    (he : starEach (e :: es) X.env = (false, eval e X.env) :: starEach es X.env := by rfl) (hpl : (backTo pos (starEach es X.env)).any (·.1) = false := by rfl) : ME T Fb X (.Call (.Name x p) (e :: es) [] pos) (mArg g mr) := by
  obtain ⟨r, hr, f⟩ := hf.ex
  refine ⟨fun σ H F ρ Q S o => (pe_callB hr hg hm hv pa_tw hn hdb he hpl).tw ?_⟩
  refine ha.run σ H F ρ _ S (o.bind.imp fun ds _ o1 vs H1 s1 r1 => ?_)
  exact f σ H1 (avo Fb F) ds vs Q (S.same s1).av r1 ((o1.same s1).imp fun d _ f v H2 s2 r2 => f v H2 (s1.trans s2) r2)
theorem me_bty {g : List D → Res D} {mr : Env → Res (List D)} (hf : CallM T X (.type ty) g) (hm : X.mg x = none) (hv : bootBuiltins x = some (.type ty)) (ha : MLb T Fb X (e :: es) mr) (hg : Gl X x := by rfl) (hn : x ≠ "__name__" := by decide) (hdb : (x == ("__debug__" : Str)) = false := by decide)
    (he : starEach (e :: es) X.env = (false, eval e X.env) :: starEach es X.env := by rfl) (hpl : (backTo pos (starEach es X.env)).any (·.1) = false := by rfl) : ME T Fb X (.Call (.Name x p) (e :: es) [] pos) (mArg g mr) := by
  obtain ⟨r, hr, f⟩ := hf.ex
  refine ⟨fun σ H F ρ Q S o => (pe_callTy hr hg hm hv pa_tw hn hdb he hpl).tw ?_⟩
  refine ha.run σ H F ρ _ S (o.bind.imp fun ds _ o1 vs H1 s1 r1 => ?_)
  exact f σ H1 (avo Fb F) ds vs Q (S.same s1).av r1 ((o1.same s1).imp fun d _ f v H2 s2 r2 => f v H2 (s1.trans s2) r2)
theorem mf_bty {g : List D → Res (List D)} {mr : Env → Res (List D)} (hf : CallF T X (.type ty) g) (hm : X.mg x = none) (hv : bootBuiltins x = some (.type ty)) (ha : MLb T Fb X (e :: es) mr) (hg : Gl X x := by rfl) (hn : x ≠ "__name__" := by decide) (hdb : (x == ("__debug__" : Str)) = false := by decide)
    (he : starEach (e :: es) X.env = (false, eval e X.env) :: starEach es X.env := by rfl) (hpl : (backTo pos (starEach es X.env)).any (·.1) = false := by rfl) : MF T Fb X (.Call (.Name x p) (e :: es) [] pos) (mArg g mr) := by
  obtain ⟨r, hr, f⟩ := hf.ex
  refine ⟨fun σ H F ρ Q S o => (pe_callTy hr hg hm hv pa_tw hn hdb he hpl).tw ?_⟩
  refine ha.run σ H F ρ _ S (o.bind.imp fun ds _ o1 vs H1 s1 r1 => ?_)
  exact f σ H1 (avo Fb F) ds vs Q (S.same s1).av r1 ((o1.same s1).imp fun d _ f p vs H2 n s2 r2 => f p vs H2 (s1.free n) (s1.trans s2) r2)
theorem paired1 {α β : Type} {R : α → β → Prop} {x : α} {vs : List β} (h : Paired R [x] vs) : ∃ v, vs = [v] ∧ R x v := by
  cases h with
  | cons r t => cases t; exact ⟨_, rfl, r⟩
theorem paired2 {α β : Type} {R : α → β → Prop} {x y : α} {vs : List β} (h : Paired R [x, y] vs) : ∃ v w, vs = [v, w] ∧ R x v ∧ R y w := by
  cases h with
  | cons r t =>
    obtain ⟨w, rfl, r2⟩ := paired1 t
    exact ⟨_, w, rfl, r, r2⟩
def lenD : List D → Res D
  | [.lst xs] => .ok (.int xs.length)
  | [.tup xs] => .ok (.int xs.length)
  | [.scr xs] => .ok (.int xs.length)
  | [.str z] => if z.length ≤ sizeLine then .ok (.int z.length) else .bad
  | _ => .bad
theorem cm_len : CallM T X (.builtin "len") lenD := by
  refine ⟨_, call_len_seq.or call_len_str, fun σ H Av ds vs Q hav r o => ?_⟩
  match ds, o with
  | [.lst xs], o =>
    obtain ⟨v, rfl, a, ws, rfl, h1, h2⟩ := paired1 r
    exact .inl ⟨a, ws, rfl, .inl (SqL.of h1), by rw [h2.length]; exact o _ _ (Same.refl H) rfl⟩
  | [.tup xs], o =>
    obtain ⟨v, rfl, a, ws, rfl, h1, h2⟩ := paired1 r
    exact .inl ⟨a, ws, rfl, .inr (tup_sq h1), by rw [h2.length]; exact o _ _ (Same.refl H) rfl⟩
  | [.scr xs], o =>
    obtain ⟨v, rfl, a, rfl, h1⟩ := paired1 r
    exact .inl ⟨a, _, rfl, .inl (scr_sq h1), by rw [List.length_map]; exact o _ _ (Same.refl H) rfl⟩
  | [.str z], o =>
    obtain ⟨hz, f⟩ := o.if
    obtain ⟨v, rfl, h1⟩ := paired1 r
    have h1 : v = V.str z := h1
    exact .inr ⟨z, by rw [h1], hz, f _ _ (Same.refl H) rfl⟩
def absD : List D → Res D
  | [.int i] => .ok (.int (if i < 0 then -i else i))
  | _ => .bad
theorem cm_abs : CallM T X (.builtin "abs") absD := by
  refine ⟨_, call_abs, fun σ H Av ds vs Q hav r o => ?_⟩
  match ds, o with
  | [.int i], o =>
    obtain ⟨v, rfl, h1⟩ := paired1 r
    have h1 : v = V.int i := h1
    exact ⟨i, by rw [h1], o _ _ (Same.refl H) rfl⟩
def max2D : List D → Res D
  | [.int i, .int j] => .ok (.int (max i j))
  | _ => .bad
def min2D : List D → Res D
  | [.int i, .int j] => .ok (.int (min i j))
  | _ => .bad
theorem cm_max2 (hc : X.calm = true) : CallM T X (.builtin "max") max2D := by
  refine ⟨_, call_max2 hc, fun σ H Av ds vs Q hav r o => ?_⟩
  match ds, o with
  | [.int i, .int j], o =>
    obtain ⟨v, w, rfl, h1, h2⟩ := paired2 r
    have h1 : v = V.int i := h1
    have h2 : w = V.int j := h2
    refine ⟨i, j, by rw [h1, h2], ?_⟩
    have e : (if j > i then j else i) = max i j := by split <;> omega
    rw [e]
    exact o _ _ (Same.refl H) rfl
theorem cm_min2 (hc : X.calm = true) : CallM T X (.builtin "min") min2D := by
  refine ⟨_, call_min2 hc, fun σ H Av ds vs Q hav r o => ?_⟩
  match ds, o with
  | [.int i, .int j], o =>
    obtain ⟨v, w, rfl, h1, h2⟩ := paired2 r
    have h1 : v = V.int i := h1
    have h2 : w = V.int j := h2
    refine ⟨i, j, by rw [h1, h2], ?_⟩
    have e : (if j < i then j else i) = min i j := by split <;> omega
    rw [e]
    exact o _ _ (Same.refl H) rfl
def intD : List D → Res D
  | [.int i] => .ok (.int i)
  | [.bl k] => .ok (.int (if k then 1 else 0))
  | _ => .bad
theorem cm_int : CallM T X (.type "int") intD := by
  refine ⟨_, call_int1, fun σ H Av ds vs Q hav r o => ?_⟩
  match ds, o with
  | [.int i], o =>
    obtain ⟨v, rfl, h1⟩ := paired1 r
    have h1 : v = V.int i := h1
    exact .inl ⟨i, by rw [h1], o _ _ (Same.refl H) rfl⟩
  | [.bl i], o =>
    obtain ⟨v, rfl, h1⟩ := paired1 r
    have h1 : v = V.bl i := h1
    exact .inr ⟨i, by rw [h1], o _ _ (Same.refl H) rfl⟩
def tupD : List D → Res D
  | [.lst xs] => .ok (.tup xs)
  | [.tup xs] => .ok (.tup xs)
  | _ => .bad
theorem cm_tup : CallM T X (.type "tuple") tupD := by
  refine ⟨_, call_tuple_of, fun σ H Av ds vs Q hav r o => ?_⟩
  match ds, o with
  | [.lst xs], o =>
    obtain ⟨v, rfl, a, ws, rfl, h1, h2⟩ := paired1 r
    refine ⟨a, ws, rfl, .inl ⟨SqL.of h1, fun l hl => ?_⟩⟩
    have s := same_upd (o := .tup ws) hl
    exact o _ _ s ⟨l, ws, rfl, .inl ⟨upd_same, fun z => absurd hl (hav l z)⟩, h2.same s⟩
  | [.tup xs], o =>
    obtain ⟨v, rfl, a, ws, rfl, h1, h2⟩ := paired1 r
    exact ⟨a, ws, rfl, .inr ⟨tup_sq h1, o _ _ (Same.refl H) ⟨a, ws, rfl, h1, h2⟩⟩⟩
def listD : List D → Res (List D)
  | [.lst xs] => .ok xs
  | [.tup xs] => .ok xs
  | _ => .bad
theorem cf_list : CallF T X (.type "list") listD := by
  refine ⟨_, call_list_of, fun σ H Av ds vs Q hav r o => ?_⟩
  match ds, o with
  | [.lst xs], o =>
    obtain ⟨v, rfl, a, ws, rfl, h1, h2⟩ := paired1 r
    refine ⟨a, ws, rfl, .inl (SqL.of h1), fun l hl => ?_⟩
    have s := same_upd (o := .lst ws) hl
    exact o l ws _ hl s upd_same (h2.new hl)
  | [.tup xs], o =>
    obtain ⟨v, rfl, a, ws, rfl, h1, h2⟩ := paired1 r
    refine ⟨a, ws, rfl, .inr (tup_sq h1), fun l hl => ?_⟩
    have s := same_upd (o := .lst ws) hl
    exact o l ws _ hl s upd_same (h2.new hl)
/-- lists of whole numbers, of truths -/
def intsOf : List D → Option (List Int)
  | [] => some []
  | .int i :: ds => (intsOf ds).map (i :: ·)
  | _ => none
def boolsOf : List D → Option (List Bool)
  | [] => some []
  | .bl i :: ds => (boolsOf ds).map (i :: ·)
  | _ => none
theorem ints_rep {G : Gx} {H : Hp} {Av : Addr → Prop} : ∀ {ds : List D} {vs : List V} {ns : List Int}, RepL G H Av ds vs → intsOf ds = some ns → vs = ns.map V.int := by
  intro ds
  induction ds with
  | nil => intro vs ns r e; cases e; exact r
  | cons d ds ih =>
    intro vs ns r e
    obtain ⟨v, vr, rfl, r1, r2⟩ := r
    cases d with
    | int i =>
      have e : (intsOf ds).map (i :: ·) = some ns := e
      cases q : intsOf ds with
      | none => rw [q] at e; cases e
      | some ms =>
        rw [q] at e; cases e
        have r1 : v = V.int i := r1
        rw [r1, ih r2 q]; rfl
    | _ => exact nomatch (show (none : Option (List Int)) = some ns from e)
theorem bools_rep {G : Gx} {H : Hp} {Av : Addr → Prop} : ∀ {ds : List D} {vs : List V} {ns : List Bool}, RepL G H Av ds vs → boolsOf ds = some ns → vs = ns.map V.bl := by
  intro ds
  induction ds with
  | nil => intro vs ns r e; cases e; exact r
  | cons d ds ih =>
    intro vs ns r e
    obtain ⟨v, vr, rfl, r1, r2⟩ := r
    cases d with
    | bl i =>
      have e : (boolsOf ds).map (i :: ·) = some ns := e
      cases q : boolsOf ds with
      | none => rw [q] at e; cases e
      | some ms =>
        rw [q] at e; cases e
        have r1 : v = V.bl i := r1
        rw [r1, ih r2 q]; rfl
    | _ => exact nomatch (show (none : Option (List Bool)) = some ns from e)
def sumD : List D → Res D
  | [.lst xs] => opt (intsOf xs) >>= fun ns => .ok (.int ns.sum)
  | _ => .bad
theorem cm_sum (hc : X.calm = true) : CallM T X (.builtin "sum") sumD := by
  refine ⟨_, cr_sum hc, fun σ H Av ds vs Q hav r o => ?_⟩
  match ds, o with
  | [.lst xs], o =>
    obtain ⟨ns, e, f⟩ := o.bind.opt
    obtain ⟨v, rfl, a, ws, rfl, h1, h2⟩ := paired1 r
    rw [ints_rep h2 e] at h1
    exact ⟨a, ns, rfl, SqL.of h1, f _ _ (Same.refl H) rfl⟩
def allD : List D → Res D
  | [.lst xs] => opt (boolsOf xs) >>= fun ns => .ok (.bl (ns.all id))
  | _ => .bad
theorem cm_all (hc : X.calm = true) : CallM T X (.builtin "all") allD := by
  refine ⟨_, cr_all hc, fun σ H Av ds vs Q hav r o => ?_⟩
  match ds, o with
  | [.lst xs], o =>
    obtain ⟨ns, e, f⟩ := o.bind.opt
    obtain ⟨v, rfl, a, ws, rfl, h1, h2⟩ := paired1 r
    rw [bools_rep h2 e] at h1
    exact ⟨a, ns, rfl, SqL.of h1, f _ _ (Same.refl H) rfl⟩
def anyD : List D → Res D
  | [.lst xs] => opt (boolsOf xs) >>= fun ns => .ok (.bl (ns.any id))
  | _ => .bad
theorem cm_any (hc : X.calm = true) : CallM T X (.builtin "any") anyD := by
  refine ⟨_, cr_any hc, fun σ H Av ds vs Q hav r o => ?_⟩
  match ds, o with
  | [.lst xs], o =>
    obtain ⟨ns, e, f⟩ := o.bind.opt
    obtain ⟨v, rfl, a, ws, rfl, h1, h2⟩ := paired1 r
    rw [bools_rep h2 e] at h1
    exact ⟨a, ns, rfl, SqL.of h1, f _ _ (Same.refl H) rfl⟩
def listMax : List Int → Int
  | [] => 0
  | [a] => a
  | a :: as => max a (listMax as)
def listMin : List Int → Int
  | [] => 0
  | [a] => a
  | a :: as => min a (listMin as)
theorem listMax_eq : ∀ {ns : List Int} {m : Int}, m ∈ ns → (∀ y ∈ ns, y ≤ m) → m = listMax ns
  | [a], m, h, _ => by rw [List.mem_singleton.mp h]; rfl
  | a :: b :: r, m, h, f => by
    rw [listMax]
    · rcases List.mem_cons.mp h with e | h
      · have q : ∀ {l : List Int}, l ≠ [] → listMax l ∈ l := by
          intro l
          induction l with
          | nil => intro z; exact absurd rfl z
          | cons x xs ih =>
            intro _
            cases xs with
            | nil => exact List.mem_singleton.mpr rfl
            | cons y ys =>
              have ih := ih (by simp)
              have : listMax (x :: y :: ys) = max x (listMax (y :: ys)) := rfl
              rw [this]
              by_cases hx : x ≤ listMax (y :: ys)
              · rw [Int.max_eq_right hx]; exact List.mem_cons_of_mem _ ih
              · rw [Int.max_eq_left (by omega)]; exact List.mem_cons_self
        have := f _ (List.mem_cons_of_mem a (q (l := b :: r) (by simp)))
        omega
      · have e := listMax_eq h (fun y hy => f y (List.mem_cons_of_mem _ hy))
        have := f a List.mem_cons_self
        omega
    · simp
theorem listMin_eq : ∀ {ns : List Int} {m : Int}, m ∈ ns → (∀ y ∈ ns, m ≤ y) → m = listMin ns
  | [a], m, h, _ => by rw [List.mem_singleton.mp h]; rfl
  | a :: b :: r, m, h, f => by
    rw [listMin]
    · rcases List.mem_cons.mp h with e | h
      · have q : ∀ {l : List Int}, l ≠ [] → listMin l ∈ l := by
          intro l
          induction l with
          | nil => intro z; exact absurd rfl z
          | cons x xs ih =>
            intro _
            cases xs with
            | nil => exact List.mem_singleton.mpr rfl
            | cons y ys =>
              have ih := ih (by simp)
              have : listMin (x :: y :: ys) = min x (listMin (y :: ys)) := rfl
              rw [this]
              by_cases hx : x ≤ listMin (y :: ys)
              · rw [Int.min_eq_left hx]; exact List.mem_cons_self
              · rw [Int.min_eq_right (by omega)]; exact List.mem_cons_of_mem _ ih
        have := f _ (List.mem_cons_of_mem a (q (l := b :: r) (by simp)))
        omega
      · have e := listMin_eq h (fun y hy => f y (List.mem_cons_of_mem _ hy))
        have := f a List.mem_cons_self
        omega
    · simp
def maxD : List D → Res D
  | [.lst xs] => opt (intsOf xs) >>= fun ns => if 0 < ns.length then .ok (.int (listMax ns)) else .bad
  | _ => .bad
def minD : List D → Res D
  | [.lst xs] => opt (intsOf xs) >>= fun ns => if 0 < ns.length then .ok (.int (listMin ns)) else .bad
  | _ => .bad
theorem cm_max (hc : X.calm = true) : CallM T X (.builtin "max") maxD := by
  refine ⟨_, cr_max hc, fun σ H Av ds vs Q hav r o => ?_⟩
  match ds, o with
  | [.lst xs], o =>
    obtain ⟨ns, e, f⟩ := o.bind.opt
    obtain ⟨hn, f⟩ := Out.if f
    obtain ⟨v, rfl, a, ws, rfl, h1, h2⟩ := paired1 r
    rw [ints_rep h2 e] at h1
    exact ⟨a, ns, rfl, SqL.of h1, hn, fun m hm hy => by rw [listMax_eq hm hy]; exact f _ _ (Same.refl H) rfl⟩
theorem cm_min (hc : X.calm = true) : CallM T X (.builtin "min") minD := by
  refine ⟨_, cr_min hc, fun σ H Av ds vs Q hav r o => ?_⟩
  match ds, o with
  | [.lst xs], o =>
    obtain ⟨ns, e, f⟩ := o.bind.opt
    obtain ⟨hn, f⟩ := Out.if f
    obtain ⟨v, rfl, a, ws, rfl, h1, h2⟩ := paired1 r
    rw [ints_rep h2 e] at h1
    exact ⟨a, ns, rfl, SqL.of h1, hn, fun m hm hy => by rw [listMin_eq hm hy]; exact f _ _ (Same.refl H) rfl⟩
end
end Cr
/-! Core, part 4b: isinstance. -/
namespace Cr
open PySem PySem.Spec PyProof.Rows L2
section
variable {T : CT} {Fb : Gh} {X : Cx} {e a b c : Expr} {es : List Expr} {m ma mb mc : Env → Res D} {pos : Pos} {p : Pos}
/-! ### isinstance -/
inductive Ty where
  | bool | int | str | list | tuple
def Ty.nm : Ty → String
  | .bool => "bool"
  | .int => "int"
  | .str => "str"
  | .list => "list"
  | .tuple => "tuple"
def isiD : Ty → D → Res D
  | _, .obj _ _ => .bad
  | .bool, .bl _ => .ok (.bl true)
  | .int, .bl _ => .ok (.bl true)
  | .int, .int _ => .ok (.bl true)
  | .str, .str _ => .ok (.bl true)
  | .list, .lst _ => .ok (.bl true)
  | .list, .scr _ => .bad
  | _, .scr _ => .bad
  | .tuple, .tup _ => .ok (.bl true)
  | _, _ => .ok (.bl false)
theorem tyx_of {G : Gx} {H : Hp} {Av : Addr → Prop} {d : D} {v : V} (t : Ty) {k : D} (r : RepB G H Av d v) (h : isiD t d = .ok k) : ∃ n b, TyX G.K H v (.type n) ∧ kitB n t.nm = some b ∧ k = .bl b := by
  cases d with
  | non => have r : v = V.non := r; rw [r]; cases t <;> cases h <;> exact ⟨"NoneType", _, .base .non, by decide +kernel, rfl⟩
  | bl x => have r : v = V.bl x := r; rw [r]; cases t <;> cases h <;> exact ⟨"bool", _, .base (.bl x), by decide +kernel, rfl⟩
  | int x => have r : v = V.int x := r; rw [r]; cases t <;> cases h <;> exact ⟨"int", _, .base (.int x), by decide +kernel, rfl⟩
  | str x => have r : v = V.str x := r; rw [r]; cases t <;> cases h <;> exact ⟨"str", _, .base (.str x), by decide +kernel, rfl⟩
  | lst xs => obtain ⟨a, vs, rfl, h1, _⟩ := r; cases t <;> cases h <;> exact ⟨"list", _, .base (.lst h1), by decide +kernel, rfl⟩
  | tup xs =>
    obtain ⟨a, vs, rfl, h1, _⟩ := r
    have ty : TyX G.K H (.ref a) (.type "tuple") := by
      rcases h1 with h1 | ⟨o, its, n, hk, hc, _⟩
      · exact .base (.tup h1.1)
      · exact .kTuple hk hc
    cases t <;> cases h <;> exact ⟨"tuple", _, ty, by decide +kernel, rfl⟩
  | obj c xs => cases t <;> cases h
  | scr xs => cases t <;> cases h
theorem me_isi (t : Ty) {pn : Pos} (hm : X.mg "isinstance" = none) (ht : X.mg (Str.ofString t.nm) = none) (hv : bootBuiltins (Str.ofString t.nm) = some (.type t.nm)) (ha : MB T Fb X a ma) (hg : Gl X "isinstance" := by rfl) (hgt : Gl X (Str.ofString t.nm) := by rfl)
    (hn : (Str.ofString t.nm) ≠ "__name__" := by decide) (hdb : ((Str.ofString t.nm) == ("__debug__" : Str)) = false := by decide) (hs : starEach [a, .Name (Str.ofString t.nm) pn] X.env = (false, eval a X.env) :: starEach [.Name (Str.ofString t.nm) pn] X.env := by rfl)
    (hs2 : starEach [.Name (Str.ofString t.nm) pn] X.env = (false, eval (.Name (Str.ofString t.nm) pn) X.env) :: starEach [] X.env := by rfl) (hpl : (backTo pos (starEach [.Name (Str.ofString t.nm) pn] X.env)).any (·.1) = false := by rfl) :
    ME T Fb X (.Call (.Name "isinstance" p) [a, .Name (Str.ofString t.nm) pn] [] pos) (mUn (isiD t) ma) := by
  have pt : PE X (.Name (Str.ofString t.nm) pn) (tC (.ty t.nm)) := pe_bltn (v := V.ty t.nm) hgt ht hv rfl hn hdb
  refine ⟨fun σ H F ρ Q S o => (pe_callB call_isi hg hm (by decide +kernel) (pa_cons pe_tw (pa_cons pt pa_nil hs2) hs) (he := hs) (hpl := hpl)).tw ?_⟩
  refine ha.run σ H F ρ _ S (o.bind.imp fun d _ o1 v H1 s r => ?_)
  cases q : isiD t d with
  | bad => rw [q] at o1; exact False.elim o1
  | err z => cases d <;> cases t <;> cases q
  | ok k =>
    rw [q] at o1
    obtain ⟨n, b, h1, h2, rfl⟩ := tyx_of t r q
    exact ⟨v, V.ty t.nm, _, _, b, rfl, .ty _, h1, kit_ty h2, o1 _ _ s rfl⟩
end
end Cr
/-! Core, part 5: calls of own defs, methods, instances, fields. -/
namespace Cr
open PySem PySem.Spec PyProof.Rows L2
/-! ### the promise of a def by its mirror -/
def spD (K : PySem.W.Frag) (T : CT) (n : Nat) (m : List D → Res D) : Sp := fun vs H Q E => vs.length = n ∧ ∃ (Av : Addr → Prop) (ds : List D), (∀ a, Av a → H a ≠ none) ∧ RepL ⟨K, T⟩ H Av ds vs ∧ match m ds with
  | .ok d => ∀ v H', Same H H' → Rep ⟨K, T⟩ H' Av d v → Q v H'
  | .err x => ∀ cls d H', Same H H' → ExcRep ⟨K, T⟩ H' x cls d → E cls d H'
  | .bad => False
/-- .. of an __init__ of the class c: the fields -/
def spI (K : PySem.W.Frag) (T : CT) (c n : Nat) (m : List D → Res (List D)) : Sp := fun vs H Q E => vs.length = n + 1 ∧ ∃ (Av : Addr → Prop) (ds : List D) (x dx : Addr) (vr : List V), vs = .ref x :: vr ∧ (∀ a, Av a → H a ≠ none) ∧ ¬ Av x ∧
  H x = some (.ins (T.addr c) dx []) ∧ RepL ⟨K, T⟩ H (fun a => a = x ∨ Av a) ds vr ∧ match m ds with
  | .ok fs => ∀ H', (∀ a o, H a = some o → a ≠ x → H' a = some o) → Rep ⟨K, T⟩ H' Av (.obj c fs) (.ref x) → Q .non H'
  | .err z => ∀ cls d H', (∀ a o, H a = some o → a ≠ x → H' a = some o) → ExcRep ⟨K, T⟩ H' z cls d → E cls d H'
  | .bad => False
section
variable (P : Program) (w : World) (K : PySem.W.Frag) (mg : Str → Option Value) (base : Heap) (T : CT)
/-- a def of the module by its name -/
structure FnAt (k : Nat) (x : Str) (n : Nat) (m : List D → Res D) : Prop where
  ex : ∃ (f : Addr) (fd : FuncData) (ps : List Str), FnOk P w K mg base (L2.CX P w) k f fd ps (spD K T n m) ∧ mg x = some (.ref f) ∧ PySem.W.keepIn K (.ref f) = true ∧ Binds K fd ps []
/-- a method of the class c -/
structure MthAt (k : Nat) (c : Nat) (x : Str) (n : Nat) (m : List D → Res D) : Prop where
  ex : ∃ (f : Addr) (fd : FuncData) (ps : List Str), FnOk P w K mg base (L2.CX P w) k f fd ps (spD K T (n + 1) m) ∧ Meth K (T.addr c) x f ∧ Binds K fd ps []
/-- a class that is made by its __init__ -/
structure MkAt (k : Nat) (c : Nat) (x : Str) (n : Nat) (m : List D → Res (List D)) : Prop where
  ex : ∃ (f : Addr) (fd : FuncData) (ps : List Str), FnOk P w K mg base (L2.CX P w) k f fd ps (spI K T c n m) ∧ mg x = some (.ref (T.addr c)) ∧ Mk K (T.addr c) f ∧ Binds K fd ps []
end
section
variable {P : Program} {w : World} {K : PySem.W.Frag} {mg : Str → Option Value} {base : Heap} {T : CT}
theorem FnAt.mono {j k : Nat} {x : Str} {n : Nat} {m : List D → Res D} (F : FnAt P w K mg base T j x n m) (h : j ≤ k) : FnAt P w K mg base T k x n m := by
  obtain ⟨f, fd, ps, F, r⟩ := F.ex
  exact ⟨f, fd, ps, F.mono h, r⟩
theorem MthAt.mono {j k c : Nat} {x : Str} {n : Nat} {m : List D → Res D} (F : MthAt P w K mg base T j c x n m) (h : j ≤ k) : MthAt P w K mg base T k c x n m := by
  obtain ⟨f, fd, ps, F, r⟩ := F.ex
  exact ⟨f, fd, ps, F.mono h, r⟩
theorem MkAt.mono {j k c : Nat} {x : Str} {n : Nat} {m : List D → Res (List D)} (F : MkAt P w K mg base T j c x n m) (h : j ≤ k) : MkAt P w K mg base T k c x n m := by
  obtain ⟨f, fd, ps, F, r⟩ := F.ex
  exact ⟨f, fd, ps, F.mono h, r⟩
end
section
variable {T : CT} {Fb : Gh} {X : Cx} {e a b c o : Expr} {es : List Expr} {m ma mb mc mo : Env → Res D} {pos p apos : Pos} {x : Str} {k n : Nat}
/-- what a call asks, whatever it ends in -/
theorem spD_of {σ : L2.St} {H : Hp} {F : List Addr} {ds : List D} {vs : List V} {Q : VK} {mf : List D → Res D} (hl : vs.length = n) (hav : ∀ a, avo Fb F a → H a ≠ none) (r : RepL (gx X T) H (avo Fb F) ds vs)
    (o : Out X T σ H (mf ds) fun d => ∀ v H', Same H H' → Rep (gx X T) H' (avo Fb F) d v → Q v H') : ∃ E : XK, PassesAt (L2.CX X.prog X.w) X σ E ∧ spD X.K T n mf vs H Q E := by
  cases q : mf ds with
  | ok d =>
    rw [q] at o
    exact ⟨E0, fun _ _ _ _ _ _ h => by obtain ⟨_, _, _, _, _, _, _, _, _, _, _, _, z⟩ := h; exact z.elim, hl, avo Fb F, ds, hav, r, by rw [q]; exact o⟩
  | err x =>
    rw [q] at o
    obtain ⟨W, tk, f⟩ := o
    exact ⟨WE W σ, passAt tk σ, hl, avo Fb F, ds, hav, r, by rw [q]; exact f⟩
  | bad => rw [q] at o; exact False.elim o
theorem binds_len {fd : FuncData} {ps : List Str} {K : PySem.W.Frag} {mg : Str → Option Value} {base : Heap} {P : Program} {w : World} {f : Addr} {CX : CXT} {sp : Sp} {vs : List V} {H : Hp} {Q : VK} {E : XK}
    (F : FnOk P w K mg base CX k f fd ps sp) (h : sp vs H Q E) : vs.length = ps.length := F.len _ _ _ _ h
theorem me_call {mf : List D → Res D} {ms : Env → Res (List D)} (F : FnAt X.prog X.w X.K X.mg X.base T k x (es.length + 1) mf) (hr : Room k X.A) (ha : ML T Fb X (e :: es) ms) (hl : ∀ ρ ds, ms ρ = .ok ds → ds.length = es.length + 1) (hg : Gl X x := by rfl) (hdb : (x == ("__debug__" : Str)) = false := by decide)
    (he : starEach (e :: es) X.env = (false, eval e X.env) :: starEach es X.env := by rfl) (hpl : (backTo pos (starEach es X.env)).any (·.1) = false := by rfl) : ME T Fb X (.Call (.Name x p) (e :: es) [] pos) (mArg mf ms) := by
  obtain ⟨f, fd, ps, F, hm, hk, hb⟩ := F.ex
  refine ⟨fun σ H Fo ρ Q S o pins s I => ?_⟩
  refine wpAny_Call_Name_kw (ld_glob I hg hm ?_ hdb)
  have args : TWa X (e :: es) σ H fun vs H1 => ∃ E : XK, PassesAt (L2.CX X.prog X.w) X σ E ∧ spD X.K T (es.length + 1) mf vs H1 Q E := by
    refine ha.run σ H Fo ρ _ S (o.bind.imp fun ds e1 o1 vs H1 s1 r1 => ?_)
    exact spD_of (by rw [r1.length]; exact hl _ _ e1) (S.same s1).av r1 ((o1.same s1).imp fun d _ f v H2 s2 r2 => f v H2 (s1.trans s2) r2)
  refine PySem.W.callWith_K (h₀ := X.base) I.ok.mod.kin hk (thn (args pos pins s I) fun us s1 ⟨vs, H1, I1, r, E, hx, q⟩ => ⟨I1.kIn, ?_⟩) he hpl
  exact run_fnS (E := fun _ => E) F hr hb hx I1 r q
theorem me_call0 {mf : List D → Res D} (F : FnAt X.prog X.w X.K X.mg X.base T k x 0 mf) (hr : Room k X.A) (hg : Gl X x := by rfl) (hdb : (x == ("__debug__" : Str)) = false := by decide) : ME T Fb X (.Call (.Name x p) [] [] pos) (mArg mf mNil) := by
  obtain ⟨f, fd, ps, F, hm, hk, hb⟩ := F.ex
  refine ⟨fun σ H Fo ρ Q S o pins s I => ?_⟩
  refine wpAny_Call_Name_kw (ld_glob I hg hm ?_ hdb)
  obtain ⟨E, hx, q⟩ := spD_of (X := X) (n := 0) (Q := Q) (vs := []) (ds := []) rfl S.av rfl (show Out X T σ H (mf []) _ from o)
  exact PySem.W.callWith_K0 I.kIn hk (run_fnS (us := []) (E := fun _ => E) F hr hb hx I .nil q)
/-- the written arguments' number -/
theorem len_nil : ∀ (ρ : Env) (ds : List D), mNil ρ = .ok ds → ds.length = 0 := fun ρ ds h => by cases h; rfl
theorem len_cons {mr : Env → Res (List D)} {n : Nat} (h : ∀ ρ ds, mr ρ = .ok ds → ds.length = n) : ∀ (ρ : Env) (ds : List D), mCons ma mr ρ = .ok ds → ds.length = n + 1 := fun ρ ds e => by
  unfold mCons at e
  cases q : ma ρ with
  | ok y =>
    rw [q, bind_ok] at e
    cases q2 : mr ρ with
    | ok ys => rw [q2, bind_ok] at e; cases e; rw [List.length_cons, h ρ ys q2]
    | err z => rw [q2] at e; cases e
    | bad => rw [q2] at e; cases e
  | err z => rw [q] at e; cases e
  | bad => rw [q] at e; cases e
/-- o.m(..), o a whole instance of the class c -/
def mMth {α : Type} (c : Nat) (mf : List D → Res α) (mo : Env → Res D) (ms : Env → Res (List D)) : Env → Res α := fun ρ => mo ρ >>= fun d => match d with
  | .obj c' xs => if c' = c then ms ρ >>= fun ds => mf (.obj c' xs :: ds) else .bad
  | _ => .bad
theorem zip_lookup_none : ∀ {ns : List Str} {vs : List V} {f : Str}, f ∉ ns → (ns.zip vs).lookup f = none
  | [], _, _, _ => rfl
  | n :: ns, [], _, _ => rfl
  | n :: ns, v :: vs, f, h => by
    rw [List.zip_cons_cons]
    have h1 : (f == n) = false := by
      cases q : (f == n) with
      | false => rfl
      | true => exact absurd (beq_iff_eq.mp q ▸ List.mem_cons_self) h
    rw [List.lookup_cons, h1]
    exact zip_lookup_none fun z => h (List.mem_cons_of_mem _ z)
theorem me_meth {c : Nat} {mf : List D → Res D} {ms : Env → Res (List D)} {pl : Sem Bool} (F : MthAt X.prog X.w X.K X.mg X.base T k c x (es.length + 1) mf) (cl : Cls X.K (T.addr c)) (hr : Room k X.A) (ho : ME T Fb X o mo) (ha : ML T Fb X (e :: es) ms) (hl : ∀ ρ ds, ms ρ = .ok ds → ds.length = es.length + 1)
    (hx : x ∉ flds c := by decide +kernel) (hst : starEach (e :: es) X.env = (false, eval e X.env) :: starEach es X.env := by rfl) (hpl : (backTo pos (starEach es X.env)).any (·.1) = false := by rfl)
    (ht : eval (.Call (.Attribute o x apos) (e :: es) [] pos) X.env = (do
      let ov ← eval o X.env
      standAt apos.atName
      let (f, first) ← holding [ov] (getMethod ov x pl)
      callWith pos f first (backTo pos (starEach (e :: es) X.env)) (backToKw pos (keywordEach [] X.env))) := by rfl) : ME T Fb X (.Call (.Attribute o x apos) (e :: es) [] pos) (mMth c mf mo ms) := by
  obtain ⟨f, fd, ps, F, hm, hb⟩ := F.ex
  refine ⟨fun σ H Fo ρ Q S o' pins s I => ?_⟩
  refine PySem.W.methodCall_KW (pl := pl) (thn (ho.run σ H Fo ρ (fun v H1 => ∃ a dx fs, v = .ref a ∧ H1 a = some (.ins (T.addr c) dx fs) ∧ fs.lookup x = none ∧ TWa X (e :: es) σ H1 fun vs H2 => ∃ E : XK, PassesAt (L2.CX X.prog X.w) X σ E ∧ spD X.K T (es.length + 2) mf (v :: vs) H2 Q E) S (o'.bind.imp fun d _ o1 v H1 s1 r1 => ?_) pins s I)
    fun u s1 ⟨v, H1, I1, rx, a, dx, fs, ex, ea, l, q⟩ => ?_) ht
  · cases d with
    | obj c' xs =>
      by_cases hc : c' = c
      · subst hc
        have o1 : Out X T σ H (if c' = c' then ms ρ >>= fun ds => mf (.obj c' xs :: ds) else .bad) _ := o1
        rw [if_pos rfl] at o1
        obtain ⟨a, dx, vs0, rfl, ⟨h1, na⟩, hl0, h2⟩ := id r1
        refine ⟨a, dx, _, rfl, h1, zip_lookup_none hx, ?_⟩
        refine ha.run σ H1 Fo ρ _ (S.same s1) ((o1.same s1).bind.imp fun ds e1 o2 vs H2 s2 r2 => ?_)
        exact spD_of (ds := .obj c' xs :: ds) (by rw [List.length_cons, r2.length, hl _ _ e1]) ((S.same s1).same s2).av ⟨_, _, rfl, r1.same s2, r2⟩ ((o2.same s2).imp fun d _ f v H3 s3 r3 => f v H3 (s1.trans (s2.trans s3)) r3)
      · have o1 : Out X T σ H (if c' = c then ms ρ >>= fun ds => mf (.obj c' xs :: ds) else .bad) _ := o1
        rw [if_neg hc] at o1
        exact False.elim o1
    | _ => exact False.elim o1
  · subst ex
    obtain rfl : u = Value.ref a := rx
    refine getmeth_ok I1 ea cl hm l ?_
    refine PySem.W.callWith_K (first := [.ref a]) (h₀ := X.base) I.ok.mod.kin hm.kp (thn (q pos pins s1 I1) fun us s2 ⟨vs, H2, I2, r, E, hx, q2⟩ => ⟨I2.kIn, ?_⟩) hst hpl
    exact run_fnS (us := .ref a :: us) (vs := .ref a :: vs) (E := fun _ => E) F hr hb hx I2 (.cons rfl r) q2
theorem me_meth0 {c : Nat} {mf : List D → Res D} {pl : Sem Bool} (F : MthAt X.prog X.w X.K X.mg X.base T k c x 0 mf) (cl : Cls X.K (T.addr c)) (hr : Room k X.A) (ho : ME T Fb X o mo)
    (hx : x ∉ flds c := by decide +kernel)
    (ht : eval (.Call (.Attribute o x apos) [] [] pos) X.env = (do
      let ov ← eval o X.env
      standAt apos.atName
      let (f, first) ← holding [ov] (getMethod ov x pl)
      callWith pos f first (backTo pos (starEach [] X.env)) (backToKw pos (keywordEach [] X.env))) := by rfl) : ME T Fb X (.Call (.Attribute o x apos) [] [] pos) (mMth c mf mo mNil) := by
  obtain ⟨f, fd, ps, F, hm, hb⟩ := F.ex
  refine ⟨fun σ H Fo ρ Q S o' pins s I => ?_⟩
  refine PySem.W.methodCall_KW (pl := pl) (thn (ho.run σ H Fo ρ (fun v H1 => ∃ a dx fs, v = .ref a ∧ H1 a = some (.ins (T.addr c) dx fs) ∧ fs.lookup x = none ∧ ∃ E : XK, PassesAt (L2.CX X.prog X.w) X σ E ∧ spD X.K T 1 mf [v] H1 Q E) S (o'.bind.imp fun d _ o1 v H1 s1 r1 => ?_) pins s I)
    fun u s1 ⟨v, H1, I1, rx, a, dx, fs, ex, ea, l, E, hx, q⟩ => ?_) ht
  · cases d with
    | obj c' xs =>
      by_cases hc : c' = c
      · subst hc
        have o1 : Out X T σ H (if c' = c' then mNil ρ >>= fun ds => mf (.obj c' xs :: ds) else .bad) _ := o1
        rw [if_pos rfl] at o1
        obtain ⟨a, dx, vs0, rfl, ⟨h1, na⟩, hl0, h2⟩ := id r1
        refine ⟨a, dx, _, rfl, h1, zip_lookup_none hx, ?_⟩
        exact spD_of (ds := [.obj c' xs]) rfl (S.same s1).av ⟨_, _, rfl, r1, rfl⟩ ((o1.same s1).imp fun d _ f v H3 s3 r3 => f v H3 (s1.trans s3) r3)
      · have o1 : Out X T σ H (if c' = c then mNil ρ >>= fun ds => mf (.obj c' xs :: ds) else .bad) _ := o1
        rw [if_neg hc] at o1
        exact False.elim o1
    | _ => exact False.elim o1
  · subst ex
    obtain rfl : u = Value.ref a := rx
    refine getmeth_ok I1 ea cl hm l ?_
    exact PySem.W.callWith_K0 (first := [.ref a]) I1.kIn hm.kp (run_fnS (us := [.ref a]) (vs := [.ref a]) (E := fun _ => E) F hr hb hx I1 (.cons rfl .nil) q)
/-- C(..) -/
def mMk (c : Nat) (mf : List D → Res (List D)) (ms : Env → Res (List D)) : Env → Res D := fun ρ => ms ρ >>= fun ds => mf ds >>= fun fs => .ok (.obj c fs)
theorem run_makeS {CX : CXT} {C f : Addr} {fd : FuncData} {ps : List Str} {sp : Sp} {E : XK} {pins : List (Addr × Obj)} {σ : L2.St} {H : Hp} {s : Shared} {Q : VK} {us : List Value} {vs : List V} (M : Mk X.K C f) (F : FnOk X.prog X.w X.K X.mg X.base CX k f fd ps sp) (hr : Room (k + 1) X.A) (hb : Binds X.K fd ps [])
    (hx : PassesAt CX X σ E) (I : Inv X pins σ H s) (r : Vals vs us)
    (h : ∀ x dx, H x = none → H dx = none → dx ≠ x → sp (.ref x :: vs) (upd (upd H dx (.own x)) x (.ins C dx [])) (fun v H2 => v = .non ∧ Q (.ref x) H2) E) :
    wpAny (model X.prog X.w) X.A (call (.ref C) us) (EP X pins σ Q) X.xe s := by
  have hq := h (s.heap.objs.size + 1) s.heap.objs.size (I.hok.fresh (Nat.le_succ _)) (I.hok.fresh (Nat.le_refl _)) (Nat.ne_of_lt (Nat.lt_succ_self _))
  have I2 := Inv.made (C := C) I
  have r2 : Vals (V.ref (s.heap.objs.size + 1) :: vs) (Value.ref (s.heap.objs.size + 1) :: us) := .cons rfl r
  have hl : (Value.ref (s.heap.objs.size + 1) :: us).length = ps.length := by
    have e := r2.length
    rw [F.len _ _ _ _ hq] at e
    exact e.symm
  have b := hb _ (Value.ref (s.heap.objs.size + 1) :: us) I2.kIn (by rw [List.append_nil]; exact hl)
  rw [List.append_nil] at b
  refine wpAny_call (make_map (f := f) I.kIn M.makes M.init (beq_iff_eq.mp M.fn) (codeAny_mono (F.run _ X.stack _ _ ⟨Value.ref (s.heap.objs.size + 1) :: us, []⟩ (Value.ref (s.heap.objs.size + 1) :: us) _ _ E (hr.make C us [])
    (I2.env0.make C us []) b r2 hq) fun r s' hq' => ?_))
  cases r with
  | error e => exact hx pins _ _ e s' I2 hq'
  | ok fl =>
    cases fl with
    | ret u =>
      obtain ⟨v, H', I3, rv, ev, q3⟩ := I2.after hq'
      subst ev
      exact ⟨rv, ⟨V.ref (s.heap.objs.size + 1), H', I3, rfl, q3⟩⟩
    | next => exact False.elim hq'
    | brk => exact False.elim hq'
    | cont => exact False.elim hq'
theorem me_make {c : Nat} {mf : List D → Res (List D)} {ms : Env → Res (List D)} (F : MkAt X.prog X.w X.K X.mg X.base T k c x (es.length + 1) mf) (hr : Room (k + 1) X.A) (ha : ML T Fb X (e :: es) ms) (hl : ∀ ρ ds, ms ρ = .ok ds → ds.length = es.length + 1) (hg : Gl X x := by rfl) (hdb : (x == ("__debug__" : Str)) = false := by decide)
    (he : starEach (e :: es) X.env = (false, eval e X.env) :: starEach es X.env := by rfl) (hpl : (backTo pos (starEach es X.env)).any (·.1) = false := by rfl) : ME T Fb X (.Call (.Name x p) (e :: es) [] pos) (mMk c mf ms) := by
  obtain ⟨f, fd, ps, F, hm, M, hb⟩ := F.ex
  refine ⟨fun σ H Fo ρ Q S o pins s I => ?_⟩
  refine wpAny_Call_Name_kw (ld_glob I hg hm ?_ hdb)
  have args : TWa X (e :: es) σ H fun vs H1 => ∃ E : XK, PassesAt (L2.CX X.prog X.w) X σ E ∧ ∀ x dx, H1 x = none → H1 dx = none → dx ≠ x →
      spI X.K T c (es.length + 1) mf (.ref x :: vs) (upd (upd H1 dx (.own x)) x (.ins (T.addr c) dx [])) (fun v H2 => v = .non ∧ Q (.ref x) H2) E := by
    refine ha.run σ H Fo ρ _ S (o.bind.imp fun ds e1 o1 vs H1 s1 r1 => ?_)
    have S1 := S.same s1
    have up : ∀ {x dx : Addr}, H1 x = none → H1 dx = none → dx ≠ x → Same H1 (upd (upd H1 dx (.own x)) x (.ins (T.addr c) dx [])) := fun {x dx} hx hd ne a o e => by
      rw [upd_ne (ne_of_none e hx), upd_ne (ne_of_none e hd)]; exact e
    have kp : ∀ {x dx : Addr}, H1 x = none → H1 dx = none → dx ≠ x → Kept H1 (upd (upd H1 dx (.own x)) x (.ins (T.addr c) dx [])) (avo Fb Fo) (fun a => a = x ∨ avo Fb Fo a) := fun {x dx} hx hd ne =>
      ⟨fun a o e _ => up hx hd ne a o e, fun a z => z.elim (fun q => .inr (by rw [q]; exact hx)) .inl⟩
    have fin : ∀ {x : Addr} {H' H'' : Hp}, H1 x = none → (∀ a o, H' a = some o → a ≠ x → H'' a = some o) → Same H1 H' → Same H1 H'' := fun {x H' H''} hx f s a o e => f a o (s a o e) (ne_of_none e hx)
    cases q : mf ds with
    | ok fs =>
      rw [q] at o1
      refine ⟨E0, fun _ _ _ _ _ _ h => by obtain ⟨_, _, _, _, _, _, _, _, _, _, _, _, z⟩ := h; exact z.elim, fun x dx hx hd ne => ?_⟩
      refine ⟨by rw [List.length_cons, r1.length, hl _ _ e1], avo Fb Fo, ds, x, dx, vs, rfl, fun a z => (S1.same (up hx hd ne)).av a z, avo_no S1.av hx, upd_same, RepL.mono (kp hx hd ne) ds r1, ?_⟩
      rw [q]
      exact fun H' k r => ⟨rfl, o1 _ _ (s1.trans (fin hx k (up hx hd ne))) r⟩
    | err z =>
      rw [q] at o1
      obtain ⟨W, tk, f⟩ := o1
      refine ⟨WE W σ, passAt tk σ, fun x dx hx hd ne => ?_⟩
      refine ⟨by rw [List.length_cons, r1.length, hl _ _ e1], avo Fb Fo, ds, x, dx, vs, rfl, fun a z => (S1.same (up hx hd ne)).av a z, avo_no S1.av hx, upd_same, RepL.mono (kp hx hd ne) ds r1, ?_⟩
      rw [q]
      exact fun cls d H' k r => f cls d H' (s1.trans (fin hx k (up hx hd ne))) r
    | bad => rw [q] at o1; exact False.elim o1
  refine PySem.W.callWith_K (h₀ := X.base) I.ok.mod.kin M.kp (thn (args pos pins s I) fun us s1 ⟨vs, H1, I1, r, E, hx, q⟩ => ⟨I1.kIn, ?_⟩) he hpl
  exact run_makeS M F hr hb hx I1 r q
/-- o.f, o a whole instance of the class c; f its j-th field -/
def fldD (c j : Nat) : D → Res D
  | .obj c' xs => if c' = c then opt xs[j]? else .bad
  | _ => .bad
theorem zip_lookup : ∀ {ns : List Str} {vs : List V} {f : Str} {j : Nat} {v : V}, ns.Nodup → ns[j]? = some f → vs[j]? = some v → (ns.zip vs).lookup f = some v
  | [], _, _, _, _, _, h, _ => by simp at h
  | n :: ns, [], _, _, _, _, _, h => by simp at h
  | n :: ns, w :: vs, f, 0, v, nd, h1, h2 => by
    simp at h1 h2
    subst h1 h2
    rw [List.zip_cons_cons, List.lookup_cons, beq_self_eq_true]
  | n :: ns, w :: vs, f, j + 1, v, nd, h1, h2 => by
    rw [List.zip_cons_cons, List.lookup_cons]
    have h1' : ns[j]? = some f := by simpa using h1
    have hf : (f == n) = false := by
      cases q : (f == n) with
      | false => rfl
      | true =>
        have e := beq_iff_eq.mp q
        rw [e] at h1'
        exact absurd (List.mem_of_getElem? h1') (List.nodup_cons.mp nd).1
    rw [hf]
    exact zip_lookup (List.nodup_cons.mp nd).2 h1' (by simpa using h2)
theorem me_fld (c j : Nat) {f : Str} (cl : Cls X.K (T.addr c)) (na : NoAttr X.K (T.addr c) f) (ho : ME T Fb X o mo) (hj : (flds c)[j]? = some f := by rfl) (nd : (flds c).Nodup := by decide +kernel)
    (hb : attributeBase o f X.env (eval o X.env) = eval o X.env := by rfl) : ME T Fb X (.Attribute o f pos) (mUn (fldD c j) mo) := by
  refine ⟨fun σ H F ρ Q S o' => (pe_fld pe_tw hb).tw ?_⟩
  refine ho.run σ H F ρ _ S (o'.bind.imp fun d _ o1 v H1 s1 r1 => ?_)
  cases d with
  | obj c' xs =>
    by_cases hc : c' = c
    · subst hc
      have o1 : Out X T σ H (if c' = c' then opt xs[j]? else .bad) _ := o1
      rw [if_pos rfl] at o1
      obtain ⟨d, e, f⟩ := o1.opt
      obtain ⟨a, dx, vs, rfl, ⟨h1, na'⟩, hl, h2⟩ := r1
      obtain ⟨w, e2, r⟩ := h2.get e
      exact ⟨a, _, dx, _, w, rfl, h1, cl, na, zip_lookup nd hj e2, f _ _ s1 r⟩
    · have o1 : Out X T σ H (if c' = c then opt xs[j]? else .bad) _ := o1
      rw [if_neg hc] at o1
      exact False.elim o1
  | _ => exact False.elim o1
end
end Cr
/-! Core, part 6: statements, targets, loops. -/
namespace Cr
open PySem PySem.Spec PyProof.Rows L2
inductive Flow where
  | nx (ρ : Env)
  | rt (d : D) (ρ : Env)
  | er (x : Exc) (ρ : Env)
  | bad
def bindF {α : Type} (r : Res α) (ρ : Env) (f : α → Flow) : Flow := match r with
  | .ok a => f a
  | .err x => .er x ρ
  | .bad => .bad
theorem bindF_ok {α : Type} (a : α) (ρ : Env) (f : α → Flow) : bindF (.ok a) ρ f = f a := rfl
theorem bindF_err {α : Type} (x : Exc) (ρ : Env) (f : α → Flow) : bindF (.err x) ρ f = .er x ρ := rfl
theorem bindF_bad {α : Type} (ρ : Env) (f : α → Flow) : bindF .bad ρ f = .bad := rfl
def OutS (X : Cx) (T : CT) (Fb : Gh) (D : Ends) (H : Hp) (F : List Addr) : Flow → Prop
  | .nx ρ' => ∀ σ' H' F', Post H F H' F' → StR (gx X T) Fb H' σ' ρ' F' → D.nx σ' H'
  | .rt d ρ' => ∀ v σ' H' F', Post H F H' F' → StR (gx X T) Fb H' σ' ρ' F' → Rep (gx X T) H' (avo Fb F') d v → D.rt v H'
  | .er x ρ' => ∃ W, Takes X W ∧ ∀ cls d σ' H' F', Post H F H' F' → StR (gx X T) Fb H' σ' ρ' F' → ExcRep (gx X T) H' x cls d → W cls d σ' H'
  | .bad => False
section
variable (T : CT) (Fb : Gh) (X : Cx)
structure MS (st : Stmt) (m : Env → Flow) : Prop where
  run : ∀ (σ : L2.St) (H : Hp) (F : List Addr) (ρ : Env) (D : Ends), StR (gx X T) Fb H σ ρ F → OutS X T Fb D H F (m ρ) → TWs X st D σ H
structure MSs (st : List Stmt) (m : Env → Flow) : Prop where
  run : ∀ (σ : L2.St) (H : Hp) (F : List Addr) (ρ : Env) (D : Ends), StR (gx X T) Fb H σ ρ F → OutS X T Fb D H F (m ρ) → TWss X st D σ H
end
section
variable {T : CT} {Fb : Gh} {X : Cx} {σ : L2.St} {H H1 : Hp} {F F1 : List Addr} {ρ : Env} {D : Ends} {fl : Flow}
theorem OutS.post (o : OutS X T Fb D H F fl) (p : Post H F H1 F1) : OutS X T Fb D H1 F1 fl := by
  cases fl with
  | nx ρ' => exact fun σ' H' F' q => o σ' H' F' (p.trans q)
  | rt d ρ' => exact fun v σ' H' F' q => o v σ' H' F' (p.trans q)
  | er x ρ' => obtain ⟨W, tk, f⟩ := o; exact ⟨W, tk, fun cls d σ' H' F' q => f cls d σ' H' F' (p.trans q)⟩
  | bad => exact o
theorem OutS.same (o : OutS X T Fb D H F fl) (s : Same H H1) : OutS X T Fb D H1 F fl := o.post (Post.of_same s)
theorem OutS.toOut {α : Type} {r : Res α} {f : α → Flow} (S : StR (gx X T) Fb H σ ρ F) (o : OutS X T Fb D H F (bindF r ρ f)) : Out X T σ H r fun a => OutS X T Fb D H F (f a) := by
  cases r with
  | ok a => exact o
  | err x =>
    obtain ⟨W, tk, g⟩ := o
    exact ⟨W, tk, fun cls d H' s r => g cls d σ H' F (Post.of_same s) (S.same s) r⟩
  | bad => exact o
end
/-! ### slots stored -/
/-- a slot that may be stored -/
def okS (ρ : Env) (i : Nat) : Bool := match ρ[i]? with
  | some (.oo _ _) => false
  | some _ => true
  | none => false
theorem okS_lt {ρ : Env} {i : Nat} (h : okS ρ i = true) : i < ρ.length := by
  unfold okS at h
  cases q : ρ[i]? with
  | none => rw [q] at h; cases h
  | some s => exact (List.getElem?_eq_some_iff.mp q).1
theorem okS_ne {ρ : Env} {i : Nat} (h : okS ρ i = true) : ∀ c fs, ρ[i]? ≠ some (.oo c fs) := fun c fs e => by
  unfold okS at h
  rw [e] at h
  cases h
def put (i : Nat) (s : Sl) (ρ : Env) : Flow := if okS ρ i = true then .nx (ρ.set i s) else .bad
section
variable {G : Gx} {Fb : Gh} {H H' : Hp} {σ : L2.St} {ρ : Env} {F : List Addr} {i : Nat}
theorem kept_sub {A A' : Addr → Prop} (h : ∀ a, A' a → A a) : Kept H H A A' := ⟨fun _ _ e _ => e, fun a z => .inl (h a z)⟩
/-- a slot takes a thing that owns nothing -/
theorem StR.sfSet (S : StR G Fb H σ ρ F) (hi : Fb.me = none ∨ ∀ c fs, ρ[i]? ≠ some (.oo c fs)) (t : Sl) (o' : Option V) : ∀ a, Fb.me = some a → (σ.set i o')[0]? = some (some (.ref a)) ∧ ∃ c fs, (ρ.set i t)[0]? = some (.oo c fs) := fun a h => by
  obtain ⟨h1, c, fs, h2⟩ := S.sf a h
  rcases hi with hi | hi
  · rw [hi] at h; cases h
  · have h0 : i ≠ 0 := fun z => hi c fs (by rw [z]; exact h2)
    rw [List.getElem?_set_ne h0, List.getElem?_set_ne h0]
    exact ⟨h1, c, fs, h2⟩
theorem StR.setN (S : StR G Fb H σ ρ F) (hi : i < ρ.length) (ho : Fb.me = none ∨ ∀ c fs, ρ[i]? ≠ some (.oo c fs)) {t : Sl} {o' : Option V} (r : RepSl G H (avo Fb F) t o' []) : StR G Fb H (σ.set i o') (ρ.set i t) F := by
  obtain ⟨F0, e, nd, sub⟩ := S.ex
  obtain ⟨o, p1, p, p2, e1, e2, r1, f⟩ := e.focus (List.getElem?_eq_getElem hi)
  refine ⟨⟨p1 ++ [] ++ p2, f (kept_sub fun _ z => z) (fun _ _ => rfl) (fun _ _ => rfl) r, ?_, fun a ha => sub a ?_⟩, S.dom, S.fb, S.sfSet ho t o'⟩
  · rw [e2] at nd
    refine nd.sublist ?_
    rw [List.append_nil, List.append_assoc]
    exact (List.Sublist.refl p1).append (List.sublist_append_right p p2)
  · rw [e2]
    simp only [List.append_nil, List.mem_append] at ha ⊢
    rcases ha with h | h
    · exact .inl (.inl h)
    · exact .inr h
/-- a slot takes a whole value -/
theorem StR.setD (S : StR G Fb H σ ρ F) (hi : okS ρ i = true) {d : D} {v : V} (r : Rep G H (avo Fb F) d v) : StR G Fb H (σ.set i (some v)) (ρ.set i (.v (.d d))) F := S.setN (okS_lt hi) (.inr (okS_ne hi)) ⟨v, rfl, rfl, r⟩
/-- a slot takes a new list -/
theorem StR.setO (S : StR G Fb H σ ρ F) (hk : okS ρ i = true) {ds : List D} {vs : List V} {p : Addr} (s : Same H H') (np : H p = none) (hp : H' p = some (.lst vs)) (r : RepL G H' (fun a => a = p ∨ avo Fb F a) ds vs) :
    Post H F H' (p :: F) ∧ StR G Fb H' (σ.set i (some (.ref p))) (ρ.set i (.v (.ol ds))) (p :: F) := by
  obtain ⟨F0, e, nd, sub⟩ := S.ex
  have hi := okS_lt hk
  obtain ⟨o, p1, q, p2, e1, e2, r1, f⟩ := e.focus (List.getElem?_eq_getElem hi)
  have nF : p ∉ F := fun z => absurd np (S.dom p z)
  have dm : ∀ a ∈ F, H' a = H a := fun a ha => same_at s (S.dom a ha)
  have m1 : ∀ a ∈ p1, a ∈ F := fun a ha => sub a (by rw [e2]; exact List.mem_append_left _ (List.mem_append_left _ ha))
  have m2 : ∀ a ∈ p2, a ∈ F := fun a ha => sub a (by rw [e2]; exact List.mem_append_right _ ha)
  have post : Post H F H' (p :: F) := ⟨fun a o e _ => s a o e, fun a z => (List.mem_cons.mp z).elim (fun e => .inr (by rw [e]; exact np)) .inl⟩
  have av2 : ∀ a, avo Fb (p :: F) a → a = p ∨ avo Fb F a := fun a z => by
    rcases z with z | z
    · rcases List.mem_cons.mp z with z | z
      · exact .inl z
      · exact .inr (.inl z)
    · exact .inr (.inr z)
  refine ⟨post, ⟨p1 ++ [p] ++ p2, f (s' := .v (.ol ds)) (o' := some (.ref p)) post.kept (fun a ha => dm a (m1 a ha)) (fun a ha => dm a (m2 a ha)) ⟨_, rfl, p, vs, rfl, rfl, hp, RepL.mono (kept_sub av2) ds r⟩, ?_, fun a ha => ?_⟩, fun a ha => ?_, fun a h => ⟨?_, fun z => ?_⟩, S.sfSet (.inr (okS_ne hk)) _ _⟩
  · rw [e2] at nd
    have nd2 : (p1 ++ p2).Nodup := nd.sublist (by rw [List.append_assoc]; exact (List.Sublist.refl p1).append (List.sublist_append_right q p2))
    rw [List.append_assoc]
    obtain ⟨n1, n2, n3⟩ := List.nodup_append.mp nd2
    refine List.nodup_append.mpr ⟨n1, List.nodup_cons.mpr ⟨fun z => nF (m2 p z), n2⟩, fun a ha b hb => ?_⟩
    rcases List.mem_cons.mp hb with e | hb
    · rw [e]; exact fun z => nF (by rw [← z]; exact m1 a ha)
    · exact n3 a ha b hb
  · simp only [List.mem_append, List.mem_singleton] at ha
    rcases ha with (h | h) | h
    · exact List.mem_cons_of_mem _ (m1 a h)
    · rw [h]; exact List.mem_cons_self
    · exact List.mem_cons_of_mem _ (m2 a h)
  · rcases List.mem_cons.mp ha with z | z
    · rw [z, hp]; exact fun z => by cases z
    · rw [dm a z]; exact S.dom a z
  · rw [same_at s (S.fb a h).1]; exact (S.fb a h).1
  · rcases List.mem_cons.mp z with z | z
    · exact (S.fb a h).1 (by rw [z]; exact np)
    · exact (S.fb a h).2 z
theorem StR.sfKeep (S : StR G Fb H σ ρ F) {f : Fd} (e : ρ[i]? = some (.v f)) (t : Sl) : ∀ a, Fb.me = some a → σ[0]? = some (some (.ref a)) ∧ ∃ c fs, (ρ.set i t)[0]? = some (.oo c fs) := fun a h => by
  obtain ⟨h1, c, fs, h2⟩ := S.sf a h
  have h0 : i ≠ 0 := fun z => by rw [z, h2] at e; cases e
  rw [List.getElem?_set_ne h0]
  exact ⟨h1, c, fs, h2⟩
theorem set_same {α : Type} {l : List α} {i : Nat} {a : α} (e : l[i]? = some a) : l.set i a = l := by
  obtain ⟨hlt, e⟩ := List.getElem?_eq_some_iff.mp e
  rw [← e, List.set_getElem_self]
/-- an owned list is changed -/
theorem StR.chgO (S : StR G Fb H σ ρ F) {xs : List D} (e : ρ[i]? = some (.v (.ol xs))) : ∃ a vs, σ[i]? = some (some (.ref a)) ∧ H a = some (.lst vs) ∧ RepL G H (avo Fb F) xs vs ∧ a ∈ F ∧
    ∀ {ys : List D} {ws : List V}, RepL G H (avo Fb F) ys ws → Post H F (upd H a (.lst ws)) F ∧ StR G Fb (upd H a (.lst ws)) σ (ρ.set i (.v (.ol ys))) F := by
  obtain ⟨F0, r0, nd, sub⟩ := S.ex
  obtain ⟨o, p1, p, p2, e1, e2, r1, f⟩ := r0.focus e
  obtain ⟨v, rfl, a, vs, rfl, rfl, h1, h2⟩ := r1
  have ma : a ∈ F := sub a (by rw [e2]; simp)
  refine ⟨a, vs, e1, h1, h2, ma, fun {ys ws} r => ?_⟩
  have post : Post H F (upd H a (.lst ws)) F := ⟨fun b o h n => by rw [upd_ne (fun z => n (by rw [z]; exact ma))]; exact h, fun _ h => .inl h⟩
  rw [e2] at nd
  have na1 : a ∉ p1 := fun z => (List.nodup_append.mp (List.nodup_append.mp nd).1).2.2 a z a (by simp) rfl
  have na2 : a ∉ p2 := fun z => (List.nodup_append.mp nd).2.2 a (by simp) a z rfl
  have up : ∀ b, H b ≠ none → upd H a (.lst ws) b ≠ none := fun b h => by
    by_cases hb : b = a
    · rw [hb, upd_same]; exact fun z => by cases z
    · rw [upd_ne hb]; exact h
  refine ⟨post, ⟨F0, ?_, by rw [e2]; exact nd, sub⟩, fun b h => up b (S.dom b h), fun b h => ⟨up b (S.fb b h).1, (S.fb b h).2⟩, S.sfKeep e _⟩
  have k := f (s' := .v (.ol ys)) (o' := some (.ref a)) (p' := [a]) (post.kept (Fb := Fb)) (fun b hb => upd_ne fun z => na1 (by rw [← z]; exact hb)) (fun b hb => upd_ne fun z => na2 (by rw [← z]; exact hb))
    ⟨_, rfl, a, ws, rfl, rfl, upd_same, RepL.mono post.kept ys r⟩
  rw [← e2, set_same e1] at k
  exact k
theorem mem_filter_ne {F : List Addr} {a b : Addr} : b ∈ F.filter (fun c => decide (c ≠ a)) ↔ b ∈ F ∧ b ≠ a := by
  rw [List.mem_filter]; simp
/-- an owned list is whole from now on -/
theorem StR.frz (S : StR G Fb H σ ρ F) {xs : List D} (e : ρ[i]? = some (.v (.ol xs))) : ∃ F', (∀ a ∈ F', a ∈ F) ∧ StR G Fb H σ (ρ.set i (.v (.d (.lst xs)))) F' := by
  obtain ⟨F0, r0, nd, sub⟩ := S.ex
  obtain ⟨o, p1, p, p2, e1, e2, r1, f⟩ := r0.focus e
  obtain ⟨v, rfl, a, vs, rfl, rfl, h1, h2⟩ := r1
  have ma : a ∈ F := sub a (by rw [e2]; simp)
  rw [e2] at nd
  have na1 : a ∉ p1 := fun z => (List.nodup_append.mp (List.nodup_append.mp nd).1).2.2 a z a (by simp) rfl
  have na2 : a ∉ p2 := fun z => (List.nodup_append.mp nd).2.2 a (by simp) a z rfl
  have sub2 : ∀ b ∈ F.filter (fun c => decide (c ≠ a)), b ∈ F := fun b h => (mem_filter_ne.mp h).1
  have k : Kept H H (avo Fb F) (avo Fb (F.filter (fun c => decide (c ≠ a)))) := kept_sub fun b z => z.elim (fun h => .inl (sub2 b h)) .inr
  have nav : ¬ avo Fb (F.filter (fun c => decide (c ≠ a))) a := fun z => by
    rcases z with z | z
    · exact (mem_filter_ne.mp z).2 rfl
    · exact (S.fb a z).2 ma
  refine ⟨_, sub2, ⟨p1 ++ [] ++ p2, ?_, ?_, fun b hb => mem_filter_ne.mpr ⟨sub b ?_, ?_⟩⟩, fun b h => S.dom b (sub2 b h), fun b h => ⟨(S.fb b h).1, fun z => (S.fb b h).2 (sub2 b z)⟩, S.sfKeep e _⟩
  · have q := f (s' := .v (.d (.lst xs))) (o' := some (.ref a)) (p' := []) k (fun _ _ => rfl) (fun _ _ => rfl) ⟨_, rfl, rfl, a, vs, rfl, ⟨h1, nav⟩, RepL.mono k xs h2⟩
    rw [set_same e1] at q
    exact q
  · refine nd.sublist ?_
    rw [List.append_nil, List.append_assoc]
    exact (List.Sublist.refl p1).append (List.sublist_append_right [a] p2)
  · rw [e2]
    simp only [List.append_nil, List.mem_append] at hb ⊢
    rcases hb with h | h
    · exact .inl (.inl h)
    · exact .inr h
  · simp only [List.append_nil, List.mem_append] at hb
    rintro rfl
    exact hb.elim na1 na2
end
section
variable {T : CT} {Fb : Gh} {X : Cx} {e a b c o : Expr} {es : List Expr} {st : Stmt} {rest : List Stmt} {me ma : Env → Res D} {m m' : Env → Flow} {pos p apos : Pos} {x : Str} {k n : Nat}
/-! ### blocks and small statements -/
def mEnd : Env → Flow := .nx
def mSeq (m m' : Env → Flow) : Env → Flow := fun ρ => match m ρ with
  | .nx ρ' => m' ρ'
  | f => f
theorem mss_nil : MSs T Fb X [] mEnd := ⟨fun σ H F ρ D S o => pss_nil.tw (o σ H F Post.refl S)⟩
theorem seq_core {D : Ends} {σ : L2.St} {H : Hp} {F : List Addr} {ρ : Env} (h2 : MSs T Fb X rest m') (o : OutS X T Fb D H F (mSeq m m' ρ)) : OutS X T Fb { D with nx := TWss X rest D } H F (m ρ) := by
  unfold mSeq at o
  cases q : m ρ with
  | nx ρ' => rw [q] at o; exact fun σ' H' F' p S' => h2.run σ' H' F' ρ' D S' (OutS.post o p)
  | rt d ρ' => rw [q] at o; exact o
  | er x ρ' => rw [q] at o; exact o
  | bad => rw [q] at o; exact o
theorem mss_cons (h1 : MS T Fb X st m) (h2 : MSs T Fb X rest m') : MSs T Fb X (st :: rest) (mSeq m m') :=
  ⟨fun σ H F ρ D S o => (pss_cons ps_tw pss_tw).tw (h1.run σ H F ρ _ S (seq_core (σ := σ) h2 o))⟩
theorem mss_one (h1 : MS T Fb X st m) : MSs T Fb X [st] m := ⟨fun σ H F ρ D S o => (pss_one ps_tw).tw (h1.run σ H F ρ D S o)⟩
/-- from here on the list in slot i is whole -/
def frzE (i : Nat) (ρ : Env) : Env := match ρ[i]? with
  | some (.v (.ol xs)) => ρ.set i (.v (.d (.lst xs)))
  | _ => ρ
def mFrz (i : Nat) (m : Env → Flow) : Env → Flow := fun ρ => m (frzE i ρ)
theorem mss_frz (i : Nat) (h : MSs T Fb X rest m) : MSs T Fb X rest (mFrz i m) := by
  refine ⟨fun σ H F ρ D S o => ?_⟩
  unfold mFrz frzE at o
  split at o
  · rename_i xs e
    obtain ⟨F', sub, S'⟩ := S.frz e
    exact h.run σ H F' _ D S' (o.post ⟨fun a o h _ => h, fun a z => .inl (sub a z)⟩)
  · exact h.run σ H F ρ D S o
theorem ms_pass : MS T Fb X (.Pass pos) mEnd := ⟨fun σ H F ρ D S o => ps_pass.tw (o σ H F Post.refl S)⟩
def mEx {α : Type} (m : Env → Res α) : Env → Flow := fun ρ => bindF (m ρ) ρ fun _ => .nx ρ
theorem ms_expr (he : ME T Fb X e me) (hs : swapsWith e none pos.line X.env = pure false := by rfl) : MS T Fb X (.Expr e pos) (mEx me) :=
  ⟨fun σ H F ρ D S o => (ps_expr pe_tw hs).tw (he.run σ H F ρ _ S ((OutS.toOut S o).imp fun _ _ f _ H1 s _ => f σ H1 F (Post.of_same s) (S.same s)))⟩
def mRet (m : Env → Res D) : Env → Flow := fun ρ => bindF (m ρ) ρ fun d => .rt d ρ
theorem ms_ret (he : ME T Fb X e me) : MS T Fb X (.Return (some e) pos) (mRet me) :=
  ⟨fun σ H F ρ D S o => (ps_ret pe_tw).tw (he.run σ H F ρ _ S ((OutS.toOut S o).imp fun _ _ f v H1 s r => f v σ H1 F (Post.of_same s) (S.same s) r))⟩
def mIfS (t : Env → Res Bool) (m m' : Env → Flow) : Env → Flow := fun ρ => bindF (t ρ) ρ fun k => match k with
  | true => m ρ
  | false => m' ρ
theorem ms_if {t : Env → Res Bool} {A B : List Stmt} (hc : MT T Fb X c t) (ha : MSs T Fb X A m) (hb : MSs T Fb X B m') : MS T Fb X (.If c A B pos) (mIfS t m m') := by
  refine ⟨fun σ H F ρ D S o => (ps_if pt_tw pss_tw pss_tw).tw ?_⟩
  refine hc.run σ H F ρ _ S ((OutS.toOut S o).imp fun k _ o1 H1 s1 => ?_)
  cases k with
  | true => exact iteT (ha.run σ H1 F ρ D (S.same s1) (OutS.same (show OutS X T Fb D H F (m ρ) from o1) s1))
  | false => exact iteF (hb.run σ H1 F ρ D (S.same s1) (OutS.same (show OutS X T Fb D H F (m' ρ) from o1) s1))
/-- x = e -/
def mSet (i : Nat) (m : Env → Res D) : Env → Flow := fun ρ => bindF (m ρ) ρ fun d => put i (.v (.d d)) ρ
theorem OutS.put {D : Ends} {H : Hp} {F : List Addr} {ρ : Env} {i : Nat} {s : Sl} (o : OutS X T Fb D H F (put i s ρ)) : okS ρ i = true ∧ OutS X T Fb D H F (.nx (ρ.set i s)) := by
  unfold Cr.put at o
  by_cases h : okS ρ i = true
  · rw [if_pos h] at o; exact ⟨h, o⟩
  · rw [if_neg h] at o; exact False.elim o
theorem ms_set (i : Nat) {pos' : Pos} (hN : X.N.Nodup) (he : ME T Fb X e me) (hi : X.N[i]? = some x := by rfl) (hx : Loc X.env.scope x := by first | exact Or.inl rfl | exact Or.inr rfl) (hs : swapsWith e (some (.Name x pos')) pos.line X.env = pure false := by rfl)
    (hf : X.fn x = true ∨ X.env.scope.names.lookup x = some .local := by first | exact .inl rfl | exact .inr rfl | assumption) : MS T Fb X (.Assign [.Name x pos'] e pos) (mSet i me) := by
  refine ⟨fun σ H F ρ D S o => (ps_set hN hi hx pe_tw hs hf).tw ?_⟩
  refine he.run σ H F ρ _ S ((OutS.toOut S o).imp fun d _ o1 v H1 s r => ?_)
  obtain ⟨hl, o2⟩ := o1.put
  exact o2 _ _ F (Post.of_same s) ((S.same s).setD hl r)
/-- x = a new list that x will change -/
def mSetO (i : Nat) (m : Env → Res (List D)) : Env → Flow := fun ρ => bindF (m ρ) ρ fun d => put i (.v (.ol d)) ρ
theorem ms_setO (i : Nat) {mf : Env → Res (List D)} {pos' : Pos} (hN : X.N.Nodup) (he : MF T Fb X e mf) (hi : X.N[i]? = some x := by rfl) (hx : Loc X.env.scope x := by first | exact Or.inl rfl | exact Or.inr rfl) (hs : swapsWith e (some (.Name x pos')) pos.line X.env = pure false := by rfl)
    (hf : X.fn x = true ∨ X.env.scope.names.lookup x = some .local := by first | exact .inl rfl | exact .inr rfl | assumption) : MS T Fb X (.Assign [.Name x pos'] e pos) (mSetO i mf) := by
  refine ⟨fun σ H F ρ D S o => (ps_set hN hi hx pe_tw hs hf).tw ?_⟩
  refine he.run σ H F ρ _ S ((OutS.toOut S o).imp fun d _ o1 q vs H1 nq s hq r => ?_)
  obtain ⟨hl, o2⟩ := o1.put
  obtain ⟨p, S'⟩ := S.setO hl s nq hq r
  exact o2 _ _ _ p S'
theorem OutS.if {D : Ends} {H : Hp} {F : List Addr} {c : Prop} [Decidable c] {fl : Flow} (o : OutS X T Fb D H F (if c then fl else .bad)) : c ∧ OutS X T Fb D H F fl := by
  by_cases h : c
  · rw [if_pos h] at o; exact ⟨h, o⟩
  · rw [if_neg h] at o; exact False.elim o
end
end Cr
/-! Core, part 7: methods of one's own lists, fields, targets, loops. -/
namespace Cr
open PySem PySem.Spec PyProof.Rows L2
section
variable {T : CT} {Fb : Gh} {X : Cx} {e a b c o : Expr} {es : List Expr} {st : Stmt} {rest : List Stmt} {me ma : Env → Res D} {m m' : Env → Flow} {pos p apos : Pos} {x : Str} {k n : Nat}
/-! ### x.append(..), x a list of one's own -/
structure LstM (T : CT) (X : Cx) (mid : String) (g : List D → List D → Res (List D)) : Prop where
  ex : ∃ r : V → List V → Hp → VK → Prop, MtR X mid r ∧ ∀ (σ : L2.St) (H : Hp) (Av : Addr → Prop) (l : Addr) (xs ds : List D) (vs ws : List V) (Q : VK), H l = some (.lst vs) → RepL (gx X T) H Av xs vs → Paired (RepB (gx X T) H Av) ds ws →
    Out X T σ H (g xs ds) (fun ys => ∀ vs', RepL (gx X T) H Av ys vs' → Q .non (upd H l (.lst vs'))) → r (.ref l) ws H Q
/-- .. with arguments that go into the list -/
structure LstW (T : CT) (X : Cx) (mid : String) (g : List D → List D → Res (List D)) : Prop where
  ex : ∃ r : V → List V → Hp → VK → Prop, MtR X mid r ∧ ∀ (σ : L2.St) (H : Hp) (Av : Addr → Prop) (l : Addr) (xs ds : List D) (vs ws : List V) (Q : VK), H l = some (.lst vs) → RepL (gx X T) H Av xs vs → RepL (gx X T) H Av ds ws →
    Out X T σ H (g xs ds) (fun ys => ∀ vs', RepL (gx X T) H Av ys vs' → Q .non (upd H l (.lst vs'))) → r (.ref l) ws H Q
def appG : List D → List D → Res (List D)
  | xs, [d] => if xs.length < sizeLine then .ok (xs ++ [d]) else .bad
  | _, _ => .bad
theorem lw_append : LstW T X "list.append" appG := by
  refine ⟨_, mt_append, fun σ H Av l xs ds vs ws Q hl r1 r2 o => ?_⟩
  match ds, o with
  | [d], o =>
    obtain ⟨hz, f⟩ := o.if
    obtain ⟨v, vr, rfl, r3, r4⟩ := r2
    have r4 : vr = [] := r4
    subst r4
    exact ⟨l, vs, v, rfl, rfl, hl, by rw [r1.length]; exact hz, f _ (r1.append ⟨v, [], rfl, r3, rfl⟩)⟩
def insG : List D → List D → Res (List D)
  | xs, [.int i, d] => if xs.length < sizeLine ∧ 0 ≤ i ∧ i < 2 ^ 63 then .ok (xs.take i.toNat ++ [d] ++ xs.drop i.toNat) else .bad
  | _, _ => .bad
theorem lw_insert : LstW T X "list.insert" insG := by
  refine ⟨_, mt_insert, fun σ H Av l xs ds vs ws Q hl r1 r2 o => ?_⟩
  match ds, o with
  | [.int i, d], o =>
    obtain ⟨⟨hz, h0, h1⟩, f⟩ := o.if
    obtain ⟨v, vr, rfl, r3, w, vr', rfl, r4, r5⟩ := r2
    have r5 : vr' = [] := r5
    have r3 : v = V.int i := r3
    subst r5 r3
    exact ⟨l, vs, i, w, rfl, rfl, hl, by rw [r1.length]; exact hz, h0, h1, f _ (((r1.take _).append (RepL.cons r4 (RepL.nil_iff.mpr rfl))).append (r1.drop _))⟩
def extG : List D → List D → Res (List D)
  | xs, [.lst ys] => if xs.length + ys.length ≤ sizeLine then .ok (xs ++ ys) else .bad
  | _, _ => .bad
theorem lm_extend : LstM T X "list.extend" extG := by
  refine ⟨_, mt_extend, fun σ H Av l xs ds vs ws Q hl r1 r2 o => ?_⟩
  match ds, o with
  | [.lst ys], o =>
    obtain ⟨hz, f⟩ := o.if
    obtain ⟨v, rfl, b, zs, rfl, hb, r3⟩ := paired1 r2
    exact ⟨l, b, vs, zs, rfl, rfl, hl, hb, by rw [r1.length, r3.length]; exact hz, f _ (r1.append r3)⟩
/-- the list in slot i changed by g -/
def mLm (i : Nat) (g : List D → List D → Res (List D)) (ms : Env → Res (List D)) : Env → Flow := fun ρ => match ρ[i]? with
  | some (.v (.ol xs)) => bindF (ms ρ) ρ fun ds => bindF (g xs ds) ρ fun ys => .nx (ρ.set i (.v (.ol ys)))
  | _ => .bad
theorem ms_lw (i : Nat) {mid : String} {nm : Str} {p2 : Pos} {g : List D → List D → Res (List D)} {ms : Env → Res (List D)} (hM : LstW T X mid g) (ha : ML T Fb X es ms) (hN : X.N[i]? = some x := by rfl) (hv : Vis X.env.scope x := by first | exact Or.inl rfl | exact Or.inr (Or.inl rfl) | exact Or.inr (Or.inr rfl))
    (hd : (x == ("__debug__" : Str)) = false := by decide) (hcd : (x == ("__classdict__" : Str)) = false := by decide)
    (hs : swapsWith (.Call (.Attribute (.Name x p2) nm apos) es [] p) none pos.line X.env = pure false := by rfl)
    (hpe : ∀ {r : V → List V → Hp → VK → Prop} {to : TE} {t : TA}, MtR X mid r → PE X (.Name x p2) to → PA X es t → PE X (.Call (.Attribute (.Name x p2) nm apos) es [] p) (tBM X.K "list" r to t)) :
    MS T Fb X (.Expr (.Call (.Attribute (.Name x p2) nm apos) es [] p) pos) (mLm i g ms) := by
  obtain ⟨r, hr, f⟩ := hM.ex
  refine ⟨fun σ H F ρ De S o => (ps_expr (hpe hr (pe_var hN hv hd hcd) pa_tw) hs).tw ?_⟩
  unfold mLm at o
  split at o
  · rename_i xs e
    obtain ⟨a, vs, e1, h1, h2, _, _⟩ := S.chgO e
    refine ⟨_, e1, .inl ⟨rfl, vs, SqL.of h1⟩, ?_⟩
    refine ha.run σ H F ρ _ S ((OutS.toOut S o).imp fun ds _ o1 ws H1 s1 r1 => ?_)
    have S1 := S.same s1
    obtain ⟨a', vs', e1', h1', h2', _, k⟩ := S1.chgO e
    rw [e1] at e1'
    cases e1'
    refine f σ H1 (avo Fb F) a xs ds vs' ws _ h1' h2' r1 ((OutS.toOut S1 (o1.same s1)).imp fun ys _ o2 zs r3 => ?_)
    obtain ⟨p, S'⟩ := k r3
    exact o2 _ _ _ p S'
  · exact False.elim o
theorem ms_lm (i : Nat) {mid : String} {nm : Str} {p2 : Pos} {g : List D → List D → Res (List D)} {ms : Env → Res (List D)} (hM : LstM T X mid g) (ha : MLb T Fb X es ms) (hN : X.N[i]? = some x := by rfl) (hv : Vis X.env.scope x := by first | exact Or.inl rfl | exact Or.inr (Or.inl rfl) | exact Or.inr (Or.inr rfl))
    (hd : (x == ("__debug__" : Str)) = false := by decide) (hcd : (x == ("__classdict__" : Str)) = false := by decide)
    (hs : swapsWith (.Call (.Attribute (.Name x p2) nm apos) es [] p) none pos.line X.env = pure false := by rfl)
    (hpe : ∀ {r : V → List V → Hp → VK → Prop} {to : TE} {t : TA}, MtR X mid r → PE X (.Name x p2) to → PA X es t → PE X (.Call (.Attribute (.Name x p2) nm apos) es [] p) (tBM X.K "list" r to t)) :
    MS T Fb X (.Expr (.Call (.Attribute (.Name x p2) nm apos) es [] p) pos) (mLm i g ms) := by
  obtain ⟨r, hr, f⟩ := hM.ex
  refine ⟨fun σ H F ρ De S o => (ps_expr (hpe hr (pe_var hN hv hd hcd) pa_tw) hs).tw ?_⟩
  unfold mLm at o
  split at o
  · rename_i xs e
    obtain ⟨a, vs, e1, h1, h2, _, _⟩ := S.chgO e
    refine ⟨_, e1, .inl ⟨rfl, vs, SqL.of h1⟩, ?_⟩
    refine ha.run σ H F ρ _ S ((OutS.toOut S o).imp fun ds _ o1 ws H1 s1 r1 => ?_)
    have S1 := S.same s1
    obtain ⟨a', vs', e1', h1', h2', _, k⟩ := S1.chgO e
    rw [e1] at e1'
    cases e1'
    refine f σ H1 (avo Fb F) a xs ds vs' ws _ h1' h2' r1 ((OutS.toOut S1 (o1.same s1)).imp fun ys _ o2 zs r3 => ?_)
    obtain ⟨p, S'⟩ := k r3
    exact o2 _ _ _ p S'
  · exact False.elim o
/-- x[j] = e, x a list of one's own -/
def setG : List D → D → D → Res (List D)
  | xs, .int k, d => match ixN xs.length k with
    | some j => .ok (xs.set j d)
    | none => .bad
  | _, _, _ => .bad
def mSetIx (i : Nat) (mj me : Env → Res D) : Env → Flow := fun ρ => bindF (me ρ) ρ fun d => match ρ[i]? with
  | some (.v (.ol xs)) => bindF (mj ρ) ρ fun j => bindF (setG xs j d) ρ fun ys => .nx (ρ.set i (.v (.ol ys)))
  | _ => .bad
theorem ms_setIx (i : Nat) {p2 p3 : Pos} {mj : Env → Res D} (he : ME T Fb X e me) (hj : MB T Fb X b mj) (hN : X.N[i]? = some x := by rfl) (hv : Vis X.env.scope x := by first | exact Or.inl rfl | exact Or.inr (Or.inl rfl) | exact Or.inr (Or.inr rfl))
    (hd : (x == ("__debug__" : Str)) = false := by decide) (hcd : (x == ("__classdict__" : Str)) = false := by decide)
    (ha : ∀ v, assign (.Subscript (.Name x p2) b p3) X.env v = (do
      let ov ← holding [v] (eval (.Name x p2) X.env)
      let iv ← holding [v, ov] (eval b X.env)
      standAt p3
      holding [v, ov, iv] (setItem ov iv v)
      release [v, ov, iv] []) := by intro _; rfl)
    (hs : swapsWithSole [.Subscript (.Name x p2) b p3] e pos.line X.env = pure false := by rfl) (hw : swappedStores [.Subscript (.Name x p2) b p3] e X.env = pure none := by rfl)
    (h1 : (assignEach [.Subscript (.Name x p2) b p3] X.env).map (·.2) = [assign (.Subscript (.Name x p2) b p3) X.env] := by rfl) : MS T Fb X (.Assign [.Subscript (.Name x p2) b p3] e pos) (mSetIx i mj me) := by
  refine ⟨fun σ H F ρ De S o => (ps_asg pe_tw (pg_sub (pe_var hN hv hd hcd) pe_tw set_list ha) hs hw h1).tw ?_⟩
  refine he.run σ H F ρ _ S ((OutS.toOut S o).imp fun d _ o1 v H1 s1 r1 => ?_)
  have S1 := S.same s1
  split at o1
  · rename_i xs e
    obtain ⟨a, vs, e1, h1, h2, _, _⟩ := S1.chgO e
    refine ⟨_, e1, ?_⟩
    refine hj.run σ H1 F ρ _ S1 ((OutS.toOut S1 (o1.same s1)).imp fun j _ o2 u H2 s2 r2 => ?_)
    have S2 := S1.same s2
    obtain ⟨a', vs', e1', h1', h2', _, k⟩ := S2.chgO e
    rw [e1] at e1'
    cases e1'
    have o3 := OutS.toOut S2 (o2.same s2)
    cases j with
    | int kk =>
      have r2 : u = V.int kk := r2
      have o3 : Out X T σ H2 (match ixN xs.length kk with
        | some j => Res.ok (xs.set j d)
        | none => .bad) _ := o3
      cases q : ixN xs.length kk with
      | none => rw [q] at o3; exact False.elim o3
      | some j =>
        rw [q] at o3
        refine ⟨a, vs', kk, j, rfl, r2, h1', by rw [h2'.length]; exact q, ?_⟩
        obtain ⟨p, S'⟩ := k (h2'.set j (r1.same s2))
        exact o3 _ _ _ p S'
    | _ => exact False.elim o3
  · exact False.elim o1
end
end Cr
/-! Core, part 8: targets, for, while. -/
namespace Cr
open PySem PySem.Spec PyProof.Rows L2
def Only (vs : List Nat) (σ σ' : L2.St) : Prop := σ'.length = σ.length ∧ ∀ j, j ∉ vs → σ'[j]? = σ[j]?
theorem Only.refl (vs : List Nat) (σ : L2.St) : Only vs σ σ := ⟨rfl, fun _ _ => rfl⟩
theorem Only.trans {vs : List Nat} {σ σ1 σ2 : L2.St} (a : Only vs σ σ1) (b : Only vs σ1 σ2) : Only vs σ σ2 := ⟨b.1.trans a.1, fun j h => (b.2 j h).trans (a.2 j h)⟩
theorem Only.set {vs : List Nat} {i : Nat} (h : i ∈ vs) (σ : L2.St) (o : Option V) : Only vs σ (σ.set i o) := ⟨List.length_set, fun j hj => List.getElem?_set_ne fun z => hj (by rw [← z]; exact h)⟩
def TWg (X : Cx) (tg : Expr) : TG := fun v σ H Q => ∀ (pins : List (Addr × Obj)) (s : Shared) (u : Value), Inv X pins σ H s → RelV v u → wpAny (model X.prog X.w) X.A (assign tg X.env u) (fun _ s' => ∃ σ' H', Inv X pins σ' H' s' ∧ Q σ' H') X.xe s
def TWgs (X : Cx) (ts : List Expr) : TGs := fun vs σ H Q => ∀ (pins : List (Addr × Obj)) (s : Shared) (us : List Value), Inv X pins σ H s → Vals vs us → wpAny (model X.prog X.w) X.A (assignInOrder ((assignEach ts X.env).map (·.2)) us) (fun _ s' => ∃ σ' H', Inv X pins σ' H' s' ∧ Q σ' H') X.xe s
theorem pg_tw {X : Cx} {tg : Expr} : PG X tg (TWg X tg) := ⟨fun pins s σ H v u Q I r h => h pins s u I r⟩
theorem pgs_tw {X : Cx} {ts : List Expr} : PGs X ts (TWgs X ts) := ⟨fun pins s σ H vs us Q I r h => h pins s us I r⟩
theorem _root_.L2.PG.tw {X : Cx} {tg : Expr} {t : TG} {v : V} {σ : L2.St} {H : Hp} {Q : L2.St → Hp → Prop} (h : PG X tg t) (q : t v σ H Q) : TWg X tg v σ H Q := fun pins s u I r => h.run pins s σ H v u Q I r q
theorem _root_.L2.PGs.tw {X : Cx} {ts : List Expr} {t : TGs} {vs : List V} {σ : L2.St} {H : Hp} {Q : L2.St → Hp → Prop} (h : PGs X ts t) (q : t vs σ H Q) : TWgs X ts vs σ H Q := fun pins s us I r => h.run pins s σ H vs us Q I r q
section
variable (T : CT) (Fb : Gh) (X : Cx)
structure MG (tg : Expr) (vs : List Nat) (g : D → Env → Option Env) : Prop where
  run : ∀ (σ : L2.St) (H : Hp) (F : List Addr) (ρ ρ' : Env) (d : D) (v : V) (Q : L2.St → Hp → Prop), StR (gx X T) Fb H σ ρ F → Rep (gx X T) H (avo Fb F) d v → g d ρ = some ρ' →
    (∀ σ', Only vs σ σ' → StR (gx X T) Fb H σ' ρ' F → Q σ' H) → TWg X tg v σ H Q
structure MGs (ts : List Expr) (vs : List Nat) (g : List D → Env → Option Env) : Prop where
  run : ∀ (σ : L2.St) (H : Hp) (F : List Addr) (ρ ρ' : Env) (ds : List D) (ws : List V) (Q : L2.St → Hp → Prop), StR (gx X T) Fb H σ ρ F → RepL (gx X T) H (avo Fb F) ds ws → g ds ρ = some ρ' →
    (∀ σ', Only vs σ σ' → StR (gx X T) Fb H σ' ρ' F → Q σ' H) → TWgs X ts ws σ H Q
end
section
variable {T : CT} {Fb : Gh} {X : Cx} {e a b c o : Expr} {es : List Expr} {st : Stmt} {rest : List Stmt} {me ma : Env → Res D} {m m' : Env → Flow} {pos p apos : Pos} {x : Str} {k n : Nat} {vs : List Nat}
def gN (i : Nat) : D → Env → Option Env := fun d ρ => if okS ρ i = true then some (ρ.set i (.v (.d d))) else none
def gS0 : List D → Env → Option Env := fun ds ρ => match ds with
  | [] => some ρ
  | _ => none
def gSc (g : D → Env → Option Env) (gs : List D → Env → Option Env) : List D → Env → Option Env := fun ds ρ => match ds with
  | [] => none
  | d :: ds => match g d ρ with
    | some ρ1 => gs ds ρ1
    | none => none
def gT (gs : List D → Env → Option Env) : D → Env → Option Env := fun d ρ => match d with
  | .tup xs => gs xs ρ
  | _ => none
def gL (gs : List D → Env → Option Env) : D → Env → Option Env := fun d ρ => match d with
  | .lst xs => gs xs ρ
  | _ => none
theorem mg_name (i : Nat) (hN : X.N.Nodup) (hm : i ∈ vs := by decide) (hi : X.N[i]? = some x := by rfl) (hx : Loc X.env.scope x := by first | exact Or.inl rfl | exact Or.inr rfl)
    (hf : X.fn x = true ∨ X.env.scope.names.lookup x = some .local := by first | exact .inl rfl | exact .inr rfl | assumption) : MG T Fb X (.Name x pos) vs (gN i) := by
  refine ⟨fun σ H F ρ ρ' d v Q S r e h => (pg_name hN hi hx hf).tw ?_⟩
  unfold gN at e
  by_cases hl : okS ρ i = true
  · rw [if_pos hl] at e
    cases e
    exact h _ (Only.set hm σ _) (S.setD hl r)
  · rw [if_neg hl] at e; cases e
theorem mgs_nil : MGs T Fb X [] vs gS0 := by
  refine ⟨fun σ H F ρ ρ' ds ws Q S r e h => pgs_nil.tw ?_⟩
  cases ds with
  | nil =>
    cases e
    exact ⟨r, h σ (Only.refl vs σ) S⟩
  | cons d ds => cases e
theorem mgs_cons {g : D → Env → Option Env} {gs : List D → Env → Option Env} (h1 : MG T Fb X e vs g) (h2 : MGs T Fb X es vs gs) (hs : (assignEach (e :: es) X.env).map (·.2) = assign e X.env :: (assignEach es X.env).map (·.2) := by rfl) : MGs T Fb X (e :: es) vs (gSc g gs) := by
  refine ⟨fun σ H F ρ ρ' ds ws Q S r eq h => (pgs_cons pg_tw pgs_tw hs).tw ?_⟩
  cases ds with
  | nil => cases eq
  | cons d ds =>
    obtain ⟨v, vr, rfl, r1, r2⟩ := r
    refine ⟨v, vr, rfl, ?_⟩
    have eq : (match g d ρ with
      | some ρ1 => gs ds ρ1
      | none => none) = some ρ' := eq
    cases q : g d ρ with
    | none => rw [q] at eq; cases eq
    | some ρ1 =>
      rw [q] at eq
      exact h1.run σ H F ρ ρ1 d v _ S r1 q fun σ1 on1 S1 => h2.run σ1 H F ρ1 ρ' ds vr _ S1 r2 eq fun σ2 on2 S2 => h σ2 (on1.trans on2) S2
theorem RepL.of_len {G : Gx} {H : Hp} {Av : Addr → Prop} {ds : List D} {vs : List V} (r : RepL G H Av ds vs) {n : Nat} (h : ds.length = n) : vs.length = n := by rw [r.length, h]
theorem mg_tup {j : Nat} {gs : List D → Env → Option Env} (hc : X.calm = true) (h : MGs T Fb X es vs gs) (hlen : ∀ ds ρ ρ', gs ds ρ = some ρ' → ds.length = n) (hn : (assignEach es X.env).length = n := by rfl) (hst : (assignEach es X.env).findIdx? (·.1) = none := by rfl) :
    MG T Fb X (.Tuple es j pos) vs (gT gs) := by
  refine ⟨fun σ H F ρ ρ' d v Q S r eq hQ => (pg_tup hc pgs_tw hn hst).tw ?_⟩
  cases d with
  | tup xs =>
    obtain ⟨a, ws, rfl, h1, h2⟩ := r
    exact ⟨a, ws, rfl, tup_sq h1, h2.of_len (hlen _ _ _ eq), h.run σ H F ρ ρ' xs ws Q S h2 eq hQ⟩
  | _ => cases eq
theorem mg_lst {j : Nat} {gs : List D → Env → Option Env} (hc : X.calm = true) (h : MGs T Fb X es vs gs) (hlen : ∀ ds ρ ρ', gs ds ρ = some ρ' → ds.length = n) (hn : (assignEach es X.env).length = n := by rfl) (hst : (assignEach es X.env).findIdx? (·.1) = none := by rfl) :
    MG T Fb X (.Tuple es j pos) vs (gL gs) := by
  refine ⟨fun σ H F ρ ρ' d v Q S r eq hQ => (pg_lst hc pgs_tw hn hst).tw ?_⟩
  cases d with
  | lst xs =>
    obtain ⟨a, ws, rfl, h1, h2⟩ := r
    exact ⟨a, ws, rfl, SqL.of h1.1, h2.of_len (hlen _ _ _ eq), h.run σ H F ρ ρ' xs ws Q S h2 eq hQ⟩
  | _ => cases eq
theorem glen_nil : ∀ ds ρ ρ', gS0 ds ρ = some ρ' → ds.length = 0 := fun ds ρ ρ' h => by
  cases ds with
  | nil => rfl
  | cons _ _ => cases h
theorem glen_cons {g : D → Env → Option Env} {gs : List D → Env → Option Env} (h : ∀ ds ρ ρ', gs ds ρ = some ρ' → ds.length = n) : ∀ ds ρ ρ', gSc g gs ds ρ = some ρ' → ds.length = n + 1 := fun ds ρ ρ' e => by
  cases ds with
  | nil => cases e
  | cons d ds =>
    have eq : (match g d ρ with
      | some ρ1 => gs ds ρ1
      | none => none) = some ρ' := e
    cases q : g d ρ with
    | none => rw [q] at eq; cases eq
    | some ρ1 => rw [q] at eq; rw [List.length_cons, h _ _ _ eq]
/-- target = e -/
def mAsg (g : D → Env → Option Env) (m : Env → Res D) : Env → Flow := fun ρ => bindF (m ρ) ρ fun d => match g d ρ with
  | some ρ' => .nx ρ'
  | none => .bad
theorem ms_asg {g : D → Env → Option Env} {tg : Expr} (he : ME T Fb X e me) (hg : MG T Fb X tg vs g) (hs : swapsWithSole [tg] e pos.line X.env = pure false := by rfl) (hw : swappedStores [tg] e X.env = pure none := by rfl)
    (h1 : (assignEach [tg] X.env).map (·.2) = [assign tg X.env] := by rfl) : MS T Fb X (.Assign [tg] e pos) (mAsg g me) := by
  refine ⟨fun σ H F ρ De S o => (ps_asg pe_tw pg_tw hs hw h1).tw ?_⟩
  refine he.run σ H F ρ _ S ((OutS.toOut S o).imp fun d _ o1 v H1 s1 r1 => ?_)
  cases q : g d ρ with
  | none =>
    have o1 : OutS X T Fb De H F (match g d ρ with
      | some ρ' => .nx ρ'
      | none => .bad) := o1
    rw [q] at o1; exact False.elim o1
  | some ρ' =>
    have o1 : OutS X T Fb De H F (match g d ρ with
      | some ρ' => .nx ρ'
      | none => .bad) := o1
    rw [q] at o1
    exact hg.run σ H1 F ρ ρ' d v _ (S.same s1) r1 q fun σ2 _ S2 => o1 _ _ _ (Post.of_same s1) S2
/-- a, b = x, y with plain local names -/
def mPar (i j : Nat) (ms : Env → Res (List D)) : Env → Flow := fun ρ => bindF (ms ρ) ρ fun ds => match ds with
  | [d, d2] => if okS ρ i = true ∧ okS (ρ.set i (.v (.d d))) j = true then .nx ((ρ.set i (.v (.d d))).set j (.v (.d d2))) else .bad
  | _ => .bad
theorem ms_par (i j : Nat) {y : Str} {px py pt : Pos} {kt k2 : Nat} {pt2 : Pos} {ms : Env → Res (List D)} (hc : X.calm = true) (hN : X.N.Nodup) (ha : ML T Fb X [a, b] ms) (hi : X.N[i]? = some x := by rfl) (hj : X.N[j]? = some y := by rfl) (hij : i ≠ j := by decide)
    (hx : X.env.scope.names.lookup x = some .local := by rfl) (hy : X.env.scope.names.lookup y = some .local := by rfl)
    (hw : swappedStores [.Tuple [.Name x px, .Name y py] kt pt] (.Tuple [a, b] k2 pt2) X.env = pure (some [x, y]) := by rfl)
    (hs : swapsWithSole [.Tuple [.Name x px, .Name y py] kt pt] (.Tuple [a, b] k2 pt2) pos.line X.env = pure false := by rfl) : MS T Fb X (.Assign [.Tuple [.Name x px, .Name y py] kt pt] (.Tuple [a, b] k2 pt2) pos) (mPar i j ms) := by
  refine ⟨fun σ H F ρ De S o => (ps_par hc hN hi hj hij hx hy pa_tw hw hs).tw ?_⟩
  refine ha.run σ H F ρ _ S ((OutS.toOut S o).imp fun ds _ o1 ws H1 s1 r1 => ?_)
  match ds, o1 with
  | [d, d2], o1 =>
    obtain ⟨⟨l1, l2⟩, o2⟩ := OutS.if o1
    obtain ⟨v, vr, rfl, r2, w, vr2, rfl, r3, r4⟩ := r1
    have r4 : vr2 = [] := r4
    subst r4
    refine ⟨v, w, rfl, ?_⟩
    exact o2 _ _ _ (Post.of_same s1) (((S.same s1).setD l1 r2).setD l2 r3)
/-- x op= e -/
theorem ms_aug (i : Nat) {op : Operator} {g : D → D → Res D} {p' : Pos} {mb : Env → Res D} (hN : X.N.Nodup) (ho : OpM T X (inplaceOp op) g) (hb : MB T Fb X e mb) (hi : X.N[i]? = some x := by rfl) (hx : Loc X.env.scope x := by first | exact Or.inl rfl | exact Or.inr rfl)
    (hf : X.fn x = true ∨ X.env.scope.names.lookup x = some .local := by first | exact .inl rfl | exact .inr rfl | assumption) : MS T Fb X (.AugAssign (.Name x p') op e pos) (mSet i (mBin g (mVar i) mb)) := by
  obtain ⟨r, hr, f⟩ := ho.ex
  refine ⟨fun σ H F ρ De S o => (ps_aug hN hi hx pe_tw (ti := r) (fun pins s σ H x y v u Q I r1 r2 h => hr pins s σ H x y v u Q I r1 r2 h) hf).tw ?_⟩
  have o1 := OutS.toOut S o
  have o2 := o1.bind
  unfold mVar at o2
  split at o2
  · rename_i d e1
    obtain ⟨o', p, e2, r1, _⟩ := S.slot e1
    obtain ⟨v, rfl, r1⟩ := r1
    refine ⟨v, e2, ?_⟩
    have o2 : Out X T σ H (mb ρ >>= fun y => g d y) _ := o2
    refine hb.run σ H F ρ _ S (o2.bind.imp fun y _ o3 w H1 s1 r3 => ?_)
    refine f σ H1 (avo Fb F) d y v w _ (S.same s1).av (r1.2.same s1).b r3 ((o3.same s1).imp fun z _ o4 u H2 s2 r4 => ?_)
    obtain ⟨hl, o5⟩ := OutS.put o4
    exact o5 _ _ F (Post.of_same (s1.trans s2)) (((S.same s1).same s2).setD hl r4)
  · exact False.elim o2
end
end Cr
/-! Core, part 9: what is walked; for, while, comprehensions. -/
namespace Cr
open PySem PySem.Spec PyProof.Rows L2
structure ItOk (G : Gx) (J : It) (xs : List D) (P : Hp → (Addr → Prop) → Prop) : Prop where
  same : ∀ {H H' : Hp} {Av : Addr → Prop}, P H Av → Same H H' → P H' Av
  new : ∀ {H : Hp} {Av : Addr → Prop} {p : Addr} {o : HO}, P H Av → H p = none → P (upd H p o) (fun a => a = p ∨ Av a)
  go : ∀ {H : Hp} {Av : Addr → Prop} {i : Nat}, P H Av → i < xs.length → J.go i H
  stop : ∀ {H : Hp} {Av : Addr → Prop} {i : Nat}, P H Av → xs.length ≤ i → J.stop i H
  yld : ∀ {H : Hp} {Av : Addr → Prop} {i : Nat} {x : V} {H' : Hp} {d : D}, P H Av → (∀ a, Av a → H a ≠ none) → xs[i]? = some d → J.yld i H x H' → Same H H' ∧ Rep G H' Av d x
def ItFz (P : Hp → (Addr → Prop) → Prop) : Prop := ∀ {H H' : Hp} {Av Av' : Addr → Prop}, P H Av → Kept H H' Av Av' → P H' Av'
section
variable (T : CT) (Fb : Gh) (X : Cx)
/-- what a for walks: it stands whatever the body does to its own -/
structure MI (tg iter : Expr) (m : Env → Res (List D)) : Prop where
  ex : ∃ wi : TI, PI X tg iter wi ∧ ∀ (σ : L2.St) (H : Hp) (F : List Addr) (ρ : Env) (R : It → Hp → Prop), StR (gx X T) Fb H σ ρ F →
    Out X T σ H (m ρ) (fun xs => ∀ J H' P, Same H H' → ItOk (gx X T) J xs P → ItFz P → P H' (avo Fb F) → R J H') → wi σ H R
/-- what a comprehension walks -/
structure MIb (tg iter : Expr) (m : Env → Res (List D)) : Prop where
  ex : ∃ wi : TI, PI X tg iter wi ∧ ∀ (σ : L2.St) (H : Hp) (F : List Addr) (ρ : Env) (R : It → Hp → Prop), StR (gx X T) Fb H σ ρ F →
    Out X T σ H (m ρ) (fun xs => ∀ J H' P, Same H H' → ItOk (gx X T) J xs P → P H' (avo Fb F) → R J H') → wi σ H R
end
theorem MI.b {T : CT} {Fb : Gh} {X : Cx} {tg iter : Expr} {m : Env → Res (List D)} (h : MI T Fb X tg iter m) : MIb T Fb X tg iter m := by
  obtain ⟨wi, hp, f⟩ := h.ex
  exact ⟨wi, hp, fun σ H F ρ R S o => f σ H F ρ R S (o.imp fun xs _ g J H' P s i _ p => g J H' P s i p)⟩
section
variable {G : Gx}
theorem SqL.val {K : PySem.W.Frag} {H : Hp} {a : Addr} {xs : List V} (h : H a = some (.lst xs)) : SqL K H a xs := SqL.of h
theorem it_lst {a : Addr} {xs : List D} : ItOk G (Itl G.K a) xs (fun H Av => ∃ vs, H a = some (.lst vs) ∧ RepL G H Av xs vs) where
  same := fun ⟨vs, h1, h2⟩ s => ⟨vs, s _ _ h1, h2.same s⟩
  new := fun ⟨vs, h1, h2⟩ hp => ⟨vs, by rw [upd_ne (ne_of_none h1 hp)]; exact h1, h2.new hp⟩
  go := fun {H Av i} ⟨vs, h1, h2⟩ hi => ⟨vs, vs[i]'(by rw [h2.length]; exact hi), SqL.of h1, by simp⟩
  stop := fun ⟨vs, h1, h2⟩ hi => ⟨vs, SqL.of h1, by rw [h2.length]; exact hi⟩
  yld := fun {H Av i x H' d} ⟨vs, h1, h2⟩ _ e y => by
    obtain ⟨e1, y⟩ := y
    obtain ⟨v, e2, r⟩ := h2.get e
    have e3 := y vs (SqL.of h1)
    rw [e2] at e3
    cases e3
    rw [e1]
    exact ⟨Same.refl H, r⟩
theorem it_tup {a : Addr} {xs : List D} : ItOk G (Itt G.K a) xs (fun H Av => ∃ vs, ((H a = some (.tup vs) ∧ ¬ Av a) ∨ KTup G.K a vs) ∧ RepL G H Av xs vs) where
  same := fun ⟨vs, h1, h2⟩ s => ⟨vs, h1.elim (fun q => .inl ⟨s _ _ q.1, q.2⟩) .inr, h2.same s⟩
  new := fun ⟨vs, h1, h2⟩ hp => ⟨vs, h1.elim (fun q => .inl ⟨by rw [upd_ne (ne_of_none q.1 hp)]; exact q.1, fun z => z.elim (ne_of_none q.1 hp) q.2⟩) .inr, h2.new hp⟩
  go := fun {H Av i} ⟨vs, h1, h2⟩ hi => ⟨vs, vs[i]'(by rw [h2.length]; exact hi), tup_sq h1, by simp⟩
  stop := fun ⟨vs, h1, h2⟩ hi => ⟨vs, tup_sq h1, by rw [h2.length]; exact hi⟩
  yld := fun {H Av i x H' d} ⟨vs, h1, h2⟩ _ e y => by
    obtain ⟨e1, y⟩ := y
    obtain ⟨v, e2, r⟩ := h2.get e
    have e3 := y vs (tup_sq h1)
    rw [e2] at e3
    cases e3
    rw [e1]
    exact ⟨Same.refl H, r⟩
def rangeD (lo c : Int) (n : Nat) : List D := (List.range n).map fun (i : Nat) => D.int (lo + (i : Int) * c)
theorem it_rng {lo c : Int} {n : Nat} : ItOk G (Itc lo c n) (rangeD lo c n) (fun _ _ => True) where
  same := fun _ _ => True.intro
  new := fun _ _ => True.intro
  go := fun {H Av i} _ hi => by
    have : (rangeD lo c n).length = n := by unfold rangeD; simp
    rw [this] at hi; exact hi
  stop := fun {H Av i} _ hi => by
    have : (rangeD lo c n).length = n := by unfold rangeD; simp
    rw [this] at hi; exact hi
  yld := fun {H Av i x H' d} _ _ e y => by
    obtain ⟨e1, e2⟩ := y
    rw [e1, e2]
    unfold rangeD at e
    rw [List.getElem?_map] at e
    cases q : (List.range n)[i]? with
    | none => rw [q] at e; cases e
    | some j =>
      rw [q] at e; cases e
      have : j = i := by
        rw [List.getElem?_range] at q
        · cases q; rfl
        · obtain ⟨h, _⟩ := List.getElem?_eq_some_iff.mp q
          simpa using h
      rw [this]
      exact ⟨Same.refl H, rfl⟩
theorem it_rng1 {lo : Int} {n : Nat} : ItOk G (Itr lo n) (rangeD lo 1 n) (fun _ _ => True) where
  same := fun _ _ => True.intro
  new := fun _ _ => True.intro
  go := fun {H Av i} h hi => (it_rng (G := G) (lo := lo) (c := 1) (n := n)).go (H := H) (Av := Av) h hi
  stop := fun {H Av i} h hi => (it_rng (G := G) (lo := lo) (c := 1) (n := n)).stop (H := H) (Av := Av) h hi
  yld := fun {H Av i x H' d} h hav e y => (it_rng (G := G) (lo := lo) (c := 1) (n := n)).yld h hav e ⟨y.1, by rw [Int.mul_one]; exact y.2⟩
def zipD (xs ys : List D) : List D := List.zipWith (fun a b => .tup [a, b]) xs ys
theorem it_zip {a b : Addr} {xs ys : List D} : ItOk G (Itz G.K a b) (zipD xs ys) (fun H Av => ∃ vs ws, H a = some (.lst vs) ∧ H b = some (.lst ws) ∧ RepL G H Av xs vs ∧ RepL G H Av ys ws) where
  same := fun ⟨vs, ws, h1, h2, h3, h4⟩ s => ⟨vs, ws, s _ _ h1, s _ _ h2, h3.same s, h4.same s⟩
  new := fun ⟨vs, ws, h1, h2, h3, h4⟩ hp => ⟨vs, ws, by rw [upd_ne (ne_of_none h1 hp)]; exact h1, by rw [upd_ne (ne_of_none h2 hp)]; exact h2, h3.new hp, h4.new hp⟩
  go := fun {H Av i} ⟨vs, ws, h1, h2, h3, h4⟩ hi => by
    unfold zipD at hi
    rw [List.length_zipWith] at hi
    have l1 : i < vs.length := by rw [h3.length]; omega
    have l2 : i < ws.length := by rw [h4.length]; omega
    exact ⟨vs, ws, vs[i], ws[i], SqL.of h1, SqL.of h2, by simp, by simp⟩
  stop := fun {H Av i} ⟨vs, ws, h1, h2, h3, h4⟩ hi => by
    unfold zipD at hi
    rw [List.length_zipWith] at hi
    refine ⟨vs, ws, SqL.of h1, SqL.of h2, ?_⟩
    rw [h3.length, h4.length]
    omega
  yld := fun {H Av i x H' d} ⟨vs, ws, h1, h2, h3, h4⟩ hav e y => by
    obtain ⟨t, u, v, rfl, ht, rfl, y1, y2⟩ := y
    unfold zipD at e
    rw [List.getElem?_zipWith] at e
    cases q1 : xs[i]? with
    | none => rw [q1] at e; cases e
    | some d1 =>
      cases q2 : ys[i]? with
      | none => rw [q1, q2] at e; cases e
      | some d2 =>
        rw [q1, q2] at e
        cases e
        obtain ⟨v1, e1, r1⟩ := h3.get q1
        obtain ⟨v2, e2, r2⟩ := h4.get q2
        have e3 := y1 vs (SqL.of h1)
        have e4 := y2 ws (SqL.of h2)
        rw [e1] at e3
        rw [e2] at e4
        cases e3
        cases e4
        have s := same_upd (o := .tup [u, v]) ht
        exact ⟨s, t, [u, v], rfl, .inl ⟨upd_same, fun z => absurd ht (hav t z)⟩, u, [v], rfl, r1.same s, v, [], rfl, r2.same s, rfl⟩
end
section
variable {T : CT} {Fb : Gh} {X : Cx} {e a b c o tg iter elt : Expr} {es ifs : List Expr} {st : Stmt} {rest body : List Stmt} {me ma mb' : Env → Res D} {m m' mb : Env → Flow} {pos p apos : Pos} {x : Str} {k n : Nat} {vs : List Nat}
def lstOf : D → Res (List D)
  | .lst xs => .ok xs
  | _ => .bad
def tupOf : D → Res (List D)
  | .tup xs => .ok xs
  | _ => .bad
theorem mi_list (h : ME T Fb X e me) : MI T Fb X tg e (mUnF lstOf me) := by
  refine ⟨_, pi_list pe_tw, fun σ H F ρ R S o => ?_⟩
  refine h.run σ H F ρ _ S (o.bind.imp fun d _ o1 v H1 s r => ?_)
  cases d with
  | lst xs =>
    obtain ⟨a, vs, rfl, ⟨h1, na⟩, h2⟩ := r
    refine ⟨a, rfl, ⟨vs, SqL.of h1⟩, o1 _ H1 (fun H Av => ¬ Av a ∧ ∃ vs, H a = some (.lst vs) ∧ RepL (gx X T) H Av xs vs) s ?_ ?_ ⟨na, vs, h1, h2⟩⟩
    · exact ⟨fun p s => ⟨p.1, it_lst.same p.2 s⟩, fun {H Av q o} p hq => ⟨fun z => z.elim (fun e => by obtain ⟨vs, h1, _⟩ := p.2; exact ne_of_none h1 hq e) p.1, it_lst.new (G := gx X T) p.2 hq⟩, fun p hi => it_lst.go (G := gx X T) p.2 hi, fun p hi => it_lst.stop (G := gx X T) p.2 hi, fun p hav e y => it_lst.yld p.2 hav e y⟩
    · exact fun {H H' Av Av'} p k => by
        obtain ⟨na, vs, h1, h2⟩ := p
        exact ⟨k.no h1 na, vs, k.keep _ _ h1 na, RepL.mono k _ h2⟩
  | _ => exact False.elim o1
theorem mib_list (h : MB T Fb X e me) : MIb T Fb X tg e (mUnF lstOf me) := by
  refine ⟨_, pi_list pe_tw, fun σ H F ρ R S o => ?_⟩
  refine h.run σ H F ρ _ S (o.bind.imp fun d _ o1 v H1 s r => ?_)
  cases d with
  | lst xs =>
    obtain ⟨a, vs, rfl, h1, h2⟩ := r
    exact ⟨a, rfl, ⟨vs, SqL.of h1⟩, o1 _ H1 _ s it_lst ⟨vs, h1, h2⟩⟩
  | _ => exact False.elim o1
theorem mi_tup (h : ME T Fb X e me) : MI T Fb X tg e (mUnF tupOf me) := by
  refine ⟨_, pi_tup pe_tw, fun σ H F ρ R S o => ?_⟩
  refine h.run σ H F ρ _ S (o.bind.imp fun d _ o1 v H1 s r => ?_)
  cases d with
  | tup xs =>
    obtain ⟨a, vs, rfl, h1, h2⟩ := r
    refine ⟨a, rfl, ⟨vs, tup_sq h1⟩, o1 _ H1 _ s it_tup ?_ ⟨vs, h1, h2⟩⟩
    exact fun {H H' Av Av'} p k => by
      obtain ⟨vs, h1, h2⟩ := p
      exact ⟨vs, h1.elim (fun q => .inl ⟨k.keep _ _ q.1 q.2, k.no q.1 q.2⟩) .inr, RepL.mono k _ h2⟩
  | _ => exact False.elim o1
theorem fz_true : ItFz (fun _ _ => True) := fun _ _ => True.intro
def rng1 : List D → Res (List D)
  | [.int n] => if -(2 ^ 62) ≤ n ∧ n < 2 ^ 62 then .ok (rangeD 0 1 n.toNat) else .bad
  | _ => .bad
def rng2 : List D → Res (List D)
  | [.int lo, .int hi] => if -(2 ^ 62) ≤ lo ∧ lo < 2 ^ 62 ∧ -(2 ^ 62) ≤ hi ∧ hi < 2 ^ 62 then .ok (rangeD lo 1 (hi - lo).toNat) else .bad
  | _ => .bad
/-- range(a, b, -1) -/
def rng3 : List D → Res (List D)
  | [.int lo, .int hi, .int c] => if c = -1 ∧ -(2 ^ 62) ≤ lo ∧ lo < 2 ^ 62 ∧ -(2 ^ 62) ≤ hi ∧ hi < 2 ^ 62 then .ok (rangeD lo (-1) (lo - hi).toNat) else .bad
  | _ => .bad
theorem mi_range1 {ms : Env → Res (List D)} (hm : X.mg "range" = none) (ha : ML T Fb X [a] ms) (hg : Gl X "range" := by rfl) (hs : starEach [a] X.env = [(false, eval a X.env)] := by rfl) : MI T Fb X tg (.Call (.Name "range" p) [a] [] pos) (mArg rng1 ms) := by
  refine ⟨_, pi_range1 hg hm pa_tw hs, fun σ H F ρ R S o => ?_⟩
  refine ha.run σ H F ρ _ S (o.bind.imp fun ds _ o1 ws H1 s r => ?_)
  match ds, o1 with
  | [.int n], o1 =>
    obtain ⟨⟨h1, h2⟩, f⟩ := o1.if
    obtain ⟨v, vr, rfl, r1, r2⟩ := r
    have r1 : v = V.int n := r1
    have r2 : vr = [] := r2
    subst r1 r2
    exact ⟨n, rfl, h1, h2, f _ _ _ s it_rng1 fz_true True.intro⟩
theorem mi_range2 {ms : Env → Res (List D)} (hm : X.mg "range" = none) (ha : ML T Fb X [a, b] ms) (hg : Gl X "range" := by rfl) (hs : starEach [a, b] X.env = [(false, eval a X.env), (false, eval b X.env)] := by rfl) (hs2 : starEach [b] X.env = [(false, eval b X.env)] := by rfl) :
    MI T Fb X tg (.Call (.Name "range" p) [a, b] [] pos) (mArg rng2 ms) := by
  refine ⟨_, pi_range2 hg hm pa_tw hs hs2, fun σ H F ρ R S o => ?_⟩
  refine ha.run σ H F ρ _ S (o.bind.imp fun ds _ o1 ws H1 s r => ?_)
  match ds, o1 with
  | [.int lo, .int hi], o1 =>
    obtain ⟨hc, f⟩ := o1.if
    obtain ⟨v, vr, rfl, r1, w, vr2, rfl, r2, r3⟩ := r
    have r1 : v = V.int lo := r1
    have r2 : w = V.int hi := r2
    have r3 : vr2 = [] := r3
    subst r1 r2 r3
    exact ⟨lo, hi, rfl, hc, f _ _ _ s it_rng1 fz_true True.intro⟩
theorem mi_range3 {ms : Env → Res (List D)} (hm : X.mg "range" = none) (ha : ML T Fb X [a, b, c] ms) (hg : Gl X "range" := by rfl) (hs : starEach [a, b, c] X.env = (false, eval a X.env) :: starEach [b, c] X.env := by rfl) (hpl : (backTo pos (starEach [b, c] X.env)).any (·.1) = false := by rfl) :
    MI T Fb X tg (.Call (.Name "range" p) [a, b, c] [] pos) (mArg rng3 ms) := by
  refine ⟨_, pi_range3 hg hm pa_tw hs hpl, fun σ H F ρ R S o => ?_⟩
  refine ha.run σ H F ρ _ S (o.bind.imp fun ds _ o1 ws H1 s r => ?_)
  match ds, o1 with
  | [.int lo, .int hi, .int cc], o1 =>
    obtain ⟨⟨hc, h1, h2, h3, h4⟩, f⟩ := o1.if
    subst hc
    obtain ⟨v, vr, rfl, r1, w, vr2, rfl, r2, u, vr3, rfl, r3, r4⟩ := r
    have r1 : v = V.int lo := r1
    have r2 : w = V.int hi := r2
    have r3 : u = V.int (-1) := r3
    have r4 : vr3 = [] := r4
    subst r1 r2 r3 r4
    exact ⟨lo, hi, -1, _, rfl, RgC.neg h1 h2 h3 h4, f _ _ _ s it_rng fz_true True.intro⟩
def zipL : List D → Res (List D)
  | [.lst xs, .lst ys] => .ok (zipD xs ys)
  | _ => .bad
theorem mi_zip {elts : List Expr} {kk : Nat} {tpos : Pos} {ms : Env → Res (List D)} (hm : X.mg "zip" = none) (ha : ML T Fb X [a, b] ms) (hg : Gl X "zip" := by rfl)
    (hs : starEach [a, b] X.env = (false, eval a X.env) :: starEach [b] X.env := by rfl) (hpl : (backTo pos (starEach [b] X.env)).any (·.1) = false := by rfl) : MI T Fb X (.Tuple elts kk tpos) (.Call (.Name "zip" p) [a, b] [] pos) (mArg zipL ms) := by
  refine ⟨_, pi_zip hg hm pa_tw hs hpl, fun σ H F ρ R S o => ?_⟩
  refine ha.run σ H F ρ _ S (o.bind.imp fun ds _ o1 ws H1 s r => ?_)
  match ds, o1 with
  | [.lst xs, .lst ys], o1 =>
    obtain ⟨v, vr, rfl, ⟨p1, us, rfl, ⟨h1, n1⟩, r1⟩, w, vr2, rfl, ⟨p2, us2, rfl, ⟨h2, n2⟩, r2⟩, r3⟩ := r
    have r3 : vr2 = [] := r3
    subst r3
    refine ⟨p1, p2, us, us2, rfl, SqL.of h1, SqL.of h2, o1 _ H1 (fun H Av => (¬ Av p1 ∧ ¬ Av p2) ∧ ∃ vs ws, H p1 = some (.lst vs) ∧ H p2 = some (.lst ws) ∧ RepL (gx X T) H Av xs vs ∧ RepL (gx X T) H Av ys ws) s ?_ ?_ ⟨⟨n1, n2⟩, us, us2, h1, h2, r1, r2⟩⟩
    · exact ⟨fun p s => ⟨p.1, it_zip.same p.2 s⟩, fun {H Av q o} p hq => ⟨⟨fun z => z.elim (fun e => by obtain ⟨vs, ws, h1, _⟩ := p.2; exact ne_of_none h1 hq e) p.1.1, fun z => z.elim (fun e => by obtain ⟨vs, ws, _, h1, _⟩ := p.2; exact ne_of_none h1 hq e) p.1.2⟩, it_zip.new (G := gx X T) p.2 hq⟩, fun p hi => it_zip.go (G := gx X T) p.2 hi, fun p hi => it_zip.stop (G := gx X T) p.2 hi, fun p hav e y => it_zip.yld p.2 hav e y⟩
    · exact fun {H H' Av Av'} p k => by
        obtain ⟨⟨n1, n2⟩, vs, ws, h1, h2, h3, h4⟩ := p
        exact ⟨⟨k.no h1 n1, k.no h2 n2⟩, vs, ws, k.keep _ _ h1 n1, k.keep _ _ h2 n2, RepL.mono k _ h3, RepL.mono k _ h4⟩
/-! ### for -/
def forL (g : D → Env → Option Env) (mb : Env → Flow) : List D → Env → Flow
  | [], ρ => .nx ρ
  | x :: xs, ρ => match g x ρ with
    | none => .bad
    | some ρ1 => match mb ρ1 with
      | .nx ρ2 => forL g mb xs ρ2
      | f => f
def mFor (mi : Env → Res (List D)) (g : D → Env → Option Env) (mb : Env → Flow) : Env → Flow := fun ρ => bindF (mi ρ) ρ fun xs => forL g mb xs ρ
theorem ms_for {mi : Env → Res (List D)} {g : D → Env → Option Env} (hp : PassesOwn (model X.prog X.w) X.A X.env X.xe) (hc : X.calm = true) (hi : MI T Fb X tg iter mi) (hg : MG T Fb X tg vs g) (hb : MSs T Fb X body mb) (hs : ∀ x, foldedSetIterable iter X.env x = pure x := by intro _; rfl) :
    MS T Fb X (.For tg iter body [] pos) (mFor mi g mb) := by
  obtain ⟨wi, hpi, f⟩ := hi.ex
  refine ⟨fun σ H F ρ De S o => (ps_for hp hc hpi pg_tw pss_tw hs).tw ?_⟩
  refine f σ H F ρ _ S ((OutS.toOut S o).imp fun xs _ o1 J H1 P s1 it fz hp1 => ?_)
  refine ⟨fun i m σ' H' => m = xs.length - i ∧ i ≤ xs.length ∧ ∃ ρi Fi, StR (gx X T) Fb H' σ' ρi Fi ∧ P H' (avo Fb Fi) ∧ OutS X T Fb De H' Fi (forL g mb (xs.drop i) ρi), ⟨xs.length, rfl, Nat.zero_le _, ρ, F, S.same s1, hp1, o1.same s1⟩, ?_⟩
  rintro i m σ' H' ⟨rfl, hi, ρi, Fi, Si, Pi, oi⟩
  by_cases hlt : i < xs.length
  · refine .inr ⟨it.go Pi hlt, fun σ'' H'' => ∃ ρj Fj, StR (gx X T) Fb H'' σ'' ρj Fj ∧ P H'' (avo Fb Fj) ∧ OutS X T Fb De H'' Fj (forL g mb (xs.drop (i + 1)) ρj), fun σ'' H'' q => ⟨xs.length - (i + 1), by omega, rfl, hlt, q⟩, fun x H2 y => ?_⟩
    rw [List.drop_eq_getElem_cons hlt] at oi
    obtain ⟨s2, rx⟩ := it.yld Pi Si.av (List.getElem?_eq_getElem hlt) y
    have oi : OutS X T Fb De H' Fi (match g xs[i] ρi with
      | none => .bad
      | some ρ1 => match mb ρ1 with
        | .nx ρ2 => forL g mb (xs.drop (i + 1)) ρ2
        | f => f) := oi
    cases q : g xs[i] ρi with
    | none => rw [q] at oi; exact False.elim oi
    | some ρ1 =>
      rw [q] at oi
      have oi : OutS X T Fb De H' Fi (match mb ρ1 with
        | .nx ρ2 => forL g mb (xs.drop (i + 1)) ρ2
        | f => f) := oi
      refine hg.run σ' H2 Fi ρi ρ1 _ x _ (Si.same s2) rx q fun σ3 on S3 => ?_
      have p3 : Post H' Fi H2 Fi := Post.of_same s2
      refine hb.run σ3 H2 Fi ρ1 _ S3 ?_
      cases q2 : mb ρ1 with
      | nx ρ2 =>
        rw [q2] at oi
        exact fun σ4 H4 F4 p4 S4 => ⟨ρ2, F4, S4, fz Pi (p3.trans p4).kept, oi.post (p3.trans p4)⟩
      | rt d ρ2 => rw [q2] at oi; exact fun v σ4 H4 F4 p4 S4 r => oi v σ4 H4 F4 (p3.trans p4) S4 r
      | er z ρ2 =>
        rw [q2] at oi
        obtain ⟨W, tk, h⟩ := oi
        exact ⟨W, tk, fun cls d σ4 H4 F4 p4 S4 r => h cls d σ4 H4 F4 (p3.trans p4) S4 r⟩
      | bad => rw [q2] at oi; exact oi
  · have e : i = xs.length := by omega
    subst e
    rw [List.drop_length] at oi
    exact .inl ⟨it.stop Pi (Nat.le_refl _), oi σ' H' Fi Post.refl Si⟩
/-! ### while -/
def whileL (mc : Env → Res Bool) (mb : Env → Flow) : Nat → Env → Flow
  | 0, _ => .bad
  | n + 1, ρ => bindF (mc ρ) ρ fun k => match k with
    | true => match mb ρ with
      | .nx ρ' => whileL mc mb n ρ'
      | f => f
    | false => .nx ρ
theorem ms_while (n : Nat) {mc : Env → Res Bool} (hp : PassesOwn (model X.prog X.w) X.A X.env X.xe) (hc : MT T Fb X c mc) (hb : MSs T Fb X body mb) : MS T Fb X (.While c body [] pos) (whileL mc mb n) := by
  refine ⟨fun σ H F ρ De S o => (ps_while hp pt_tw pss_tw).tw ?_⟩
  refine ⟨fun m σ' H' => ∃ ρi Fi, StR (gx X T) Fb H' σ' ρi Fi ∧ OutS X T Fb De H' Fi (whileL mc mb m ρi), ⟨n, ρ, F, S, o⟩, ?_⟩
  rintro m σ' H' ⟨ρi, Fi, Si, oi⟩
  cases m with
  | zero => exact False.elim oi
  | succ m =>
    refine hc.run σ' H' Fi ρi _ Si ((OutS.toOut Si oi).imp fun k _ o1 H1 s1 => ?_)
    cases k with
    | false =>
      have o1 : OutS X T Fb De H' Fi (.nx ρi) := o1
      exact iteF (o1 σ' H1 Fi (Post.of_same s1) (Si.same s1))
    | true =>
      refine iteT ⟨fun σ'' H'' => ∃ ρj Fj, StR (gx X T) Fb H'' σ'' ρj Fj ∧ OutS X T Fb De H'' Fj (whileL mc mb m ρj), fun σ'' H'' q => ⟨m, Nat.lt_succ_self m, q⟩, ?_⟩
      have o1 : OutS X T Fb De H' Fi (match mb ρi with
        | .nx ρ' => whileL mc mb m ρ'
        | f => f) := o1
      have o2 := o1.same s1
      refine hb.run σ' H1 Fi ρi _ (Si.same s1) ?_
      cases q2 : mb ρi with
      | nx ρ2 => rw [q2] at o2; exact fun σ4 H4 F4 p4 S4 => ⟨ρ2, F4, S4, o2.post p4⟩
      | rt d ρ2 => rw [q2] at o2; exact o2
      | er z ρ2 => rw [q2] at o2; exact o2
      | bad => rw [q2] at o2; exact o2
end
end Cr
/-! Core, part 10: comprehensions. -/
namespace Cr
open PySem PySem.Spec PyProof.Rows L2
def TWts (X : Cx) (ifs : List Expr) : TT := fun σ H Q => ∀ (pins : List (Addr × Obj)) (s : Shared), Inv X pins σ H s →
    wpAny (model X.prog X.w) X.A (forIn ifs true fun c r => if r = true then do let ok ← isTrue c X.env (eval c X.env); pure (ForInStep.yield ok) else pure (ForInStep.yield r)) (TP X pins σ Q) X.xe s
structure MTs (T : CT) (Fb : Gh) (X : Cx) (ifs : List Expr) (m : Env → Res Bool) : Prop where
  run : ∀ (σ : L2.St) (H : Hp) (F : List Addr) (ρ : Env) (Q : Bool → Hp → Prop), StR (gx X T) Fb H σ ρ F →
    Out X T σ H (m ρ) (fun b => ∀ H', Same H H' → Q b H') → TWts X ifs σ H Q
def mYes : Env → Res Bool := fun _ => .ok true
section
variable {T : CT} {Fb : Gh} {X : Cx} {e a b c o tg iter elt : Expr} {es ifs : List Expr} {me : Env → Res D} {mt : Env → Res Bool} {pos p : Pos}
theorem mts_nil : MTs T Fb X [] mYes := ⟨fun σ H F ρ Q S o pins s I => pts_nil.run pins s σ H Q I (o H (Same.refl H))⟩
theorem mts_one (h : MT T Fb X c mt) : MTs T Fb X [c] mt := ⟨fun σ H F ρ Q S o pins s I => (pts_one pt_tw).run pins s σ H Q I (h.run σ H F ρ Q S o)⟩
end
/-- no error within -/
def nerr {α : Type} : Res α → Res α
  | .ok a => .ok a
  | _ => .bad
def compL (g : D → Env → Option Env) (mt : Env → Res Bool) (me : Env → Res D) (ρ : Env) : List D → Res (List D)
  | [] => .ok []
  | x :: xs => match g x ρ with
    | none => .bad
    | some ρ1 => nerr (mt ρ1) >>= fun b => match b with
      | true => nerr (me ρ1) >>= fun d => compL g mt me ρ xs >>= fun ds => .ok (d :: ds)
      | false => compL g mt me ρ xs
theorem compL_noerr {g : D → Env → Option Env} {mt : Env → Res Bool} {me : Env → Res D} {ρ : Env} : ∀ {xs : List D} {z : Exc}, compL g mt me ρ xs ≠ .err z
  | [], z, h => by cases h
  | x :: xs, z, h => by
    unfold compL at h
    split at h
    · cases h
    · rename_i ρ1 _
      cases q : mt ρ1 with
      | ok b =>
        rw [q] at h
        cases b with
        | true =>
          have h : (nerr (me ρ1) >>= fun d => compL g mt me ρ xs >>= fun ds => Res.ok (d :: ds)) = .err z := h
          cases q2 : me ρ1 with
          | ok d =>
            rw [q2] at h
            have h : (compL g mt me ρ xs >>= fun ds => Res.ok (d :: ds)) = .err z := h
            cases q3 : compL g mt me ρ xs with
            | ok ds => rw [q3] at h; cases h
            | err y => exact compL_noerr q3
            | bad => rw [q3] at h; cases h
          | err y => rw [q2] at h; cases h
          | bad => rw [q2] at h; cases h
        | false =>
          have h : compL g mt me ρ xs = .err z := h
          exact compL_noerr h
      | err y => rw [q] at h; cases h
      | bad => rw [q] at h; cases h
/-- the block's own names forgotten -/
def wipeE (ρ : Env) : List Nat → Env
  | [] => ρ
  | v :: vs => (wipeE ρ vs).set v .no
theorem StR.drop {G : Gx} {Fb : Gh} {H : Hp} {σ : L2.St} {ρ : Env} {F : List Addr} (S : StR G Fb H σ ρ F) : StR G ⟨Fb.fb, none⟩ H σ ρ F := ⟨S.ex, S.dom, S.fb, fun _ h => nomatch h⟩
theorem StR.wipe {G : Gx} {Fb : Gh} {H : Hp} {σ : L2.St} {ρ : Env} {F : List Addr} (hm : Fb.me = none) (S : StR G Fb H σ ρ F) : ∀ vs : List Nat, StR G Fb H (L2.wipe σ vs) (wipeE ρ vs) F
  | [] => S
  | v :: vs => by
    have S1 := StR.wipe hm S vs
    unfold L2.wipe wipeE
    by_cases h : v < (wipeE ρ vs).length
    · exact S1.setN h (.inl hm) rfl
    · have hl := S1.length
      rw [List.set_eq_of_length_le (by omega), List.set_eq_of_length_le (by omega)]
      exact S1
theorem wipe_at {σ : L2.St} {j : Nat} : ∀ {vs : List Nat}, j ∈ vs → j < σ.length → (L2.wipe σ vs)[j]? = some none
  | [], h, _ => by cases h
  | v :: vs, h, hl => by
    unfold L2.wipe
    by_cases e : v = j
    · subst e
      exact List.getElem?_set_self (by rw [wipe_length]; exact hl)
    · rw [List.getElem?_set_ne e]
      exact wipe_at ((List.mem_cons.mp h).resolve_left fun z => e z.symm) hl
theorem wipe_only {σ σ' : L2.St} {vs : List Nat} (h : Only vs (L2.wipe σ vs) σ') : L2.wipe σ' vs = L2.wipe σ vs := by
  refine List.ext_getElem? fun j => ?_
  have hl : σ'.length = σ.length := by rw [h.1, wipe_length]
  by_cases hj : j ∈ vs
  · by_cases hlt : j < σ.length
    · rw [wipe_at hj (by rw [hl]; exact hlt), wipe_at hj hlt]
    · rw [List.getElem?_eq_none (by rw [wipe_length, hl]; omega), List.getElem?_eq_none (by rw [wipe_length]; omega)]
  · rw [wipe_out hj, h.2 j hj]
/-- a new object: the frame must not touch it -/
theorem StR.new {G : Gx} {Fb : Gh} {H : Hp} {σ : L2.St} {ρ : Env} {F : List Addr} (S : StR G Fb H σ ρ F) {p : Addr} {o : HO} (hp : H p = none) : StR G ⟨fun a => a = p ∨ Fb.fb a, none⟩ (upd H p o) σ ρ F := by
  obtain ⟨F0, e, nd, sub⟩ := S.ex
  have s := same_upd (o := o) hp
  have k : Kept H (upd H p o) (avo Fb F) (avo ⟨fun a => a = p ∨ Fb.fb a, none⟩ F) := ⟨fun a o h _ => s a o h, fun a z => by
    rcases z with z | z | z
    · exact .inl (.inl z)
    · exact .inr (by rw [z]; exact hp)
    · exact .inl (.inr z)⟩
  refine ⟨⟨F0, e.mono k (fun a ha => same_at s (e.dom a ha)), nd, sub⟩, fun a h => by rw [same_at s (S.dom a h)]; exact S.dom a h, fun a h => ?_, fun _ h => nomatch h⟩
  rcases h with h | h
  · rw [h, upd_same]; exact ⟨fun z => (by cases z), fun z => S.dom p z hp⟩
  · exact ⟨by rw [same_at s (S.fb a h).1]; exact (S.fb a h).1, (S.fb a h).2⟩
/-- a forbidden object changes -/
theorem StR.chg {G : Gx} {Fb : Gh} {H H' : Hp} {σ : L2.St} {ρ : Env} {F : List Addr} (S : StR G Fb H σ ρ F) {p : Addr} {o : HO} (hp : Fb.fb p) : StR G Fb (upd H p o) σ ρ F := by
  obtain ⟨F0, e, nd, sub⟩ := S.ex
  have k : Kept H (upd H p o) (avo Fb F) (avo Fb F) := ⟨fun a u h n => by rw [upd_ne fun z => n (.inr (by rw [z]; exact hp))]; exact h, fun a z => .inl z⟩
  have up : ∀ b, H b ≠ none → upd H p o b ≠ none := fun b h => by
    by_cases hb : b = p
    · rw [hb, upd_same]; exact fun z => by cases z
    · rw [upd_ne hb]; exact h
  exact ⟨⟨F0, e.mono k (fun a ha => upd_ne fun z => (S.fb p hp).2 (by rw [← z]; exact sub a ha)), nd, sub⟩, fun a h => up a (S.dom a h), fun a h => ⟨up a (S.fb a h).1, (S.fb a h).2⟩, S.sf⟩
section
variable {T : CT} {Fb : Gh} {X : Cx} {tg iter elt : Expr} {ifs : List Expr} {scope : Scope} {own : List (Str × Nat)} {mi : Env → Res (List D)} {g : D → Env → Option Env} {mt : Env → Res Bool} {me : Env → Res D} {pos : Pos}
def mComp (vs : List Nat) (mi : Env → Res (List D)) (g : D → Env → Option Env) (mt : Env → Res Bool) (me : Env → Res D) : Env → Res (List D) := fun ρ => mi ρ >>= fun xs => match decide (xs.length ≤ sizeLine) with
  | true => compL g mt me (wipeE ρ vs) xs
  | false => .bad
def blkG (X : Cx) (scope : Scope) (tg : Expr) : TG := fun v σ H Q => ∀ (s0 : Shared) (H0 : Hp) (C : Addr) (cl : List (Str × Addr)) (fp : List Addr), TWg (X.blk s0 H0 scope (compEnvC scope cl C X.env) fp) tg v σ H Q
def blkT (X : Cx) (scope : Scope) (ifs : List Expr) : TT := fun σ H Q => ∀ (s0 : Shared) (H0 : Hp) (C : Addr) (cl : List (Str × Addr)) (fp : List Addr), TWts (X.blk s0 H0 scope (compEnvC scope cl C X.env) fp) ifs σ H Q
def blkE (X : Cx) (scope : Scope) (elt : Expr) : TE := fun σ H Q => ∀ (s0 : Shared) (H0 : Hp) (C : Addr) (cl : List (Str × Addr)) (fp : List Addr), TWe (X.blk s0 H0 scope (compEnvC scope cl C X.env) fp) elt σ H Q
theorem pg_blk (s0 : Shared) (H0 : Hp) (C : Addr) (cl : List (Str × Addr)) (fp : List Addr) : PG (X.blk s0 H0 scope (compEnvC scope cl C X.env) fp) tg (blkG X scope tg) := ⟨fun pins s σ H v u Q I r h => h s0 H0 C cl fp pins s u I r⟩
theorem pts_blk (s0 : Shared) (H0 : Hp) (C : Addr) (cl : List (Str × Addr)) (fp : List Addr) : PTs (X.blk s0 H0 scope (compEnvC scope cl C X.env) fp) ifs (blkT X scope ifs) := ⟨fun pins s σ H Q I h => h s0 H0 C cl fp pins s I⟩
theorem pe_blk (s0 : Shared) (H0 : Hp) (C : Addr) (cl : List (Str × Addr)) (fp : List Addr) : PE (X.blk s0 H0 scope (compEnvC scope cl C X.env) fp) elt (blkE X scope elt) := ⟨fun pins s σ H Q I h => h s0 H0 C cl fp pins s I⟩
/-- what the new list stands for, turn by turn -/
theorem comp_core {σ : L2.St} {H : Hp} {F : List Addr} {ρ : Env} {Q : VK} {wi : TI}
    (f : ∀ (σ : L2.St) (H : Hp) (F : List Addr) (ρ : Env) (R : It → Hp → Prop), StR (gx X T) Fb H σ ρ F → Out X T σ H (mi ρ) (fun xs => ∀ J H' P, Same H H' → ItOk (gx X T) J xs P → P H' (avo Fb F) → R J H') → wi σ H R)
    (hg : ∀ (s : Shared) (H : Hp) (C : Addr) (cl : List (Str × Addr)) (fp : List Addr) (Fb' : Gh), MG T Fb' (X.blk s H scope (compEnvC scope cl C X.env) fp) tg (own.map (·.2)) g)
    (ht : ∀ (s : Shared) (H : Hp) (C : Addr) (cl : List (Str × Addr)) (fp : List Addr) (Fb' : Gh), MTs T Fb' (X.blk s H scope (compEnvC scope cl C X.env) fp) ifs mt)
    (he : ∀ (s : Shared) (H : Hp) (C : Addr) (cl : List (Str × Addr)) (fp : List Addr) (Fb' : Gh), ME T Fb' (X.blk s H scope (compEnvC scope cl C X.env) fp) elt me)
    (S : StR (gx X T) Fb H σ ρ F) (o : Out X T σ H (mComp (own.map (·.2)) mi g mt me ρ) (fun ds => ∀ p vs H', H p = none → Same H H' → H' p = some (.lst vs) → RepL (gx X T) H' (fun a => a = p ∨ avo Fb F a) ds vs → Q (.ref p) H')) :
    tLc wi (blkG X scope tg) (blkT X scope ifs) (blkE X scope elt) (own.map (·.2)) σ H Q := by
  refine f σ H F ρ _ S (o.bind.imp fun xs _ o1 J H1 P s1 it hp L hL => ?_)
  have S1 := S.same s1
  have o1 : Out X T σ H (match decide (xs.length ≤ sizeLine) with
    | true => compL g mt me (wipeE ρ (own.map (·.2))) xs
    | false => (Res.bad : Res (List D))) _ := o1
  have hz : xs.length ≤ sizeLine := by
    by_cases hz : xs.length ≤ sizeLine
    · exact hz
    · rw [decide_eq_false hz] at o1; exact False.elim o1
  rw [decide_eq_true hz] at o1
  have o1 : Out X T σ H (compL g mt me (wipeE ρ (own.map (·.2))) xs) _ := o1
  cases q : compL g mt me (wipeE ρ (own.map (·.2))) xs with
  | err z => exact absurd q compL_noerr
  | bad => rw [q] at o1; exact False.elim o1
  | ok ds =>
    rw [q] at o1
    generalize hw : wipeE ρ (own.map (·.2)) = ρw at q
    have Sw : StR (gx X T) ⟨fun a => a = L ∨ Fb.fb a, none⟩ (upd H1 L (.lst [])) (L2.wipe σ (own.map (·.2))) ρw F := by rw [← hw]; exact (S1.drop.wipe rfl _).new hL
    have toA : ∀ {d : D} {v : V} {H' : Hp}, Rep (gx X T) H' (avo ⟨fun a => a = L ∨ Fb.fb a, none⟩ F) d v → Rep (gx X T) H' (fun a => a = L ∨ avo Fb F a) d v := fun {d v H'} r => Rep.mono (kept_sub fun a z => by
      rcases z with z | z | z
      · exact .inr (.inl z)
      · exact .inl z
      · exact .inr (.inr z)) d r
    have ofA : ∀ {d : D} {v : V} {H' : Hp}, Rep (gx X T) H' (fun a => a = L ∨ avo Fb F a) d v → Rep (gx X T) H' (avo ⟨fun a => a = L ∨ Fb.fb a, none⟩ F) d v := fun {d v H'} r => Rep.mono (kept_sub fun a z => by
      rcases z with z | z | z
      · exact .inr (.inl z)
      · exact .inl z
      · exact .inr (.inr z)) d r
    have pP : ∀ (H' : Hp) (acc : List V), Same H1 H' → H' L = some (.lst acc) → P H' (fun a => a = L ∨ avo Fb F a) := fun H' acc s e => by
      have sm : Same H1 (fun a => if a = L then none else H' a) := fun a o h => by
        have ne := ne_of_none h hL
        show (if a = L then none else H' a) = some o
        rw [if_neg ne]
        exact s _ _ h
      have k := it.new (p := L) (o := .lst acc) (it.same hp sm) (if_pos rfl)
      have e2 : upd (fun a => if a = L then none else H' a) L (.lst acc) = H' := by
        funext a
        unfold upd
        by_cases h : a = L
        · rw [if_pos h, h, e]
        · rw [if_neg h]; exact if_neg h
      rw [e2] at k
      exact k
    refine ⟨fun i m H' => m = xs.length - i ∧ i ≤ xs.length ∧ ∃ dn rs acc, ds = dn ++ rs ∧ dn.length ≤ i ∧ compL g mt me ρw (xs.drop i) = .ok rs ∧ H' L = some (.lst acc) ∧ RepL (gx X T) H' (fun a => a = L ∨ avo Fb F a) dn acc ∧ Same H1 H' ∧
      StR (gx X T) ⟨fun a => a = L ∨ Fb.fb a, none⟩ H' (L2.wipe σ (own.map (·.2))) ρw F, ⟨xs.length, rfl, Nat.zero_le _, [], ds, [], rfl, Nat.le_refl _, q, upd_same, rfl, same_upd hL, Sw⟩, ?_⟩
    rintro i m H' ⟨rfl, hi, dn, rs, acc, e1, hdn, e2, e3, r3, s3, S3⟩
    have P3 := pP H' acc s3 e3
    have hav : ∀ a, (a = L ∨ avo Fb F a) → H' a ≠ none := fun a z => by
      rcases z with z | z
      · rw [z, e3]; exact fun z => by cases z
      · rw [same_at s3 (S1.av a z)]; exact S1.av a z
    by_cases hlt : i < xs.length
    · refine .inr ⟨it.go P3 hlt, fun H'' => ∃ dn rs acc, ds = dn ++ rs ∧ dn.length ≤ i + 1 ∧ compL g mt me ρw (xs.drop (i + 1)) = .ok rs ∧ H'' L = some (.lst acc) ∧ RepL (gx X T) H'' (fun a => a = L ∨ avo Fb F a) dn acc ∧ Same H1 H'' ∧
        StR (gx X T) ⟨fun a => a = L ∨ Fb.fb a, none⟩ H'' (L2.wipe σ (own.map (·.2))) ρw F, fun H'' k => ⟨xs.length - (i + 1), by omega, rfl, hlt, k⟩, fun x H2 y => ?_⟩
      rw [List.drop_eq_getElem_cons hlt] at e2
      obtain ⟨s4, rx⟩ := it.yld P3 hav (List.getElem?_eq_getElem hlt) y
      have e2 : (match g xs[i] ρw with
        | none => (Res.bad : Res (List D))
        | some ρ1 => nerr (mt ρ1) >>= fun b => match b with
          | true => nerr (me ρ1) >>= fun d => compL g mt me ρw (xs.drop (i + 1)) >>= fun ds => .ok (d :: ds)
          | false => compL g mt me ρw (xs.drop (i + 1))) = .ok rs := e2
      intro s0 H0 C cl fp
      cases q1 : g xs[i] ρw with
      | none => rw [q1] at e2; cases e2
      | some ρ1 =>
        rw [q1] at e2
        have e2 : (nerr (mt ρ1) >>= fun b => match b with
          | true => nerr (me ρ1) >>= fun d => compL g mt me ρw (xs.drop (i + 1)) >>= fun ds => .ok (d :: ds)
          | false => compL g mt me ρw (xs.drop (i + 1))) = .ok rs := e2
        refine (hg s0 H0 C cl fp _).run _ H2 F ρw ρ1 _ x _ (S3.same s4) (ofA rx) q1 fun σ2 on S4 => ⟨wipe_only on, ?_⟩
        intro s0 H0 C cl fp
        cases q2 : mt ρ1 with
        | err z => rw [q2] at e2; cases e2
        | bad => rw [q2] at e2; cases e2
        | ok b =>
          rw [q2] at e2
          refine (ht s0 H0 C cl fp _).run σ2 H2 F ρ1 _ S4 ?_
          rw [q2]
          intro H3 s5
          cases b with
          | false =>
            have e2 : compL g mt me ρw (xs.drop (i + 1)) = .ok rs := e2
            have s45 := s4.trans s5
            exact iteF ⟨dn, rs, acc, e1, by omega, e2, s45 _ _ e3, r3.same s45, s3.trans s45, S3.same s45⟩
          | true =>
            have e2 : (nerr (me ρ1) >>= fun d => compL g mt me ρw (xs.drop (i + 1)) >>= fun ds => Res.ok (d :: ds)) = .ok rs := e2
            refine iteT ?_
            intro s0 H0 C cl fp
            cases q3 : me ρ1 with
            | err z => rw [q3] at e2; cases e2
            | bad => rw [q3] at e2; cases e2
            | ok d =>
              rw [q3] at e2
              have e2 : (compL g mt me ρw (xs.drop (i + 1)) >>= fun ds => Res.ok (d :: ds)) = .ok rs := e2
              cases q4 : compL g mt me ρw (xs.drop (i + 1)) with
              | err z => rw [q4] at e2; cases e2
              | bad => rw [q4] at e2; cases e2
              | ok rs' =>
                rw [q4] at e2
                have e2 : Res.ok (d :: rs') = .ok rs := e2
                injection e2 with e2
                refine (he s0 H0 C cl fp _).run σ2 H3 F ρ1 _ (S4.same s5) ?_
                rw [q3]
                intro y H4 s6 r6
                have s456 := s4.trans (s5.trans s6)
                have h4 := s456 _ _ e3
                have kk : Kept H4 (upd H4 L (.lst (acc ++ [y]))) (fun a => a = L ∨ avo Fb F a) (fun a => a = L ∨ avo Fb F a) := ⟨fun a u h n => by rw [upd_ne fun z => n (.inl z)]; exact h, fun a z => .inl z⟩
                refine ⟨acc, h4, ?_, dn ++ [d], rs', acc ++ [y], by rw [e1, ← e2, List.append_assoc]; rfl, by rw [List.length_append]; simp; omega, rfl, upd_same, ?_, ?_, ?_⟩
                · have := r3.length
                  omega
                · exact RepL.mono kk _ ((r3.same s456).append (RepL.cons (toA r6) (RepL.nil_iff.mpr rfl)))
                · exact fun a u h => by
                    have nL : a ≠ L := ne_of_none h hL
                    rw [upd_ne nL]
                    exact s456 _ _ (s3 _ _ h)
                · exact (S3.same s456).chg (H' := H4) (.inl rfl)
    · have e : i = xs.length := by omega
      subst e
      rw [List.drop_length] at e2
      have e2 : Res.ok ([] : List D) = .ok rs := e2
      injection e2 with e2
      subst e2
      rw [List.append_nil] at e1
      refine .inl ⟨it.stop P3 (Nat.le_refl _), ?_⟩
      have o1 : ∀ p vs H', H p = none → Same H H' → H' p = some (.lst vs) → RepL (gx X T) H' (fun a => a = p ∨ avo Fb F a) ds vs → Q (.ref p) H' := o1
      refine o1 L acc H' (s1.free hL) (s1.trans s3) e3 ?_
      rw [e1]
      exact r3
theorem mf_comp (hc : X.calm = true) (hN : X.N.Nodup) (hi : MIb T Fb X tg iter mi) (ok : BlkOk X.N X.env.scope scope own)
    (hg : ∀ (s : Shared) (H : Hp) (C : Addr) (cl : List (Str × Addr)) (fp : List Addr) (Fb' : Gh), MG T Fb' (X.blk s H scope (compEnvC scope cl C X.env) fp) tg (own.map (·.2)) g)
    (ht : ∀ (s : Shared) (H : Hp) (C : Addr) (cl : List (Str × Addr)) (fp : List Addr) (Fb' : Gh), MTs T Fb' (X.blk s H scope (compEnvC scope cl C X.env) fp) ifs mt)
    (he : ∀ (s : Shared) (H : Hp) (C : Addr) (cl : List (Str × Addr)) (fp : List Addr) (Fb' : Gh), ME T Fb' (X.blk s H scope (compEnvC scope cl C X.env) fp) elt me)
    (hs : ∀ x, foldedSetIterable iter X.env x = pure x := by intro _; rfl) : MF T Fb X (.ListComp elt [⟨tg, iter, ifs, 0⟩] scope pos) (mComp (own.map (·.2)) mi g mt me) := by
  obtain ⟨wi, hpi, f⟩ := hi.ex
  refine ⟨fun σ H F ρ Q S o => (pe_lc hc hN hpi ok pg_blk pts_blk pe_blk hs).tw ?_⟩
  exact comp_core f hg ht he S o
/-- y = [..] -/
theorem ms_setComp (i : Nat) {y : Str} {py spos : Pos} (own' : Bool) (hc : X.calm = true) (hN : X.N.Nodup) (hi : MIb T Fb X tg iter mi) (ok : BlkOk X.N X.env.scope scope own)
    (hg : ∀ (s : Shared) (H : Hp) (C : Addr) (cl : List (Str × Addr)) (fp : List Addr) (Fb' : Gh), MG T Fb' (X.blk s H scope (compEnvC scope cl C X.env) fp) tg (own.map (·.2)) g)
    (ht : ∀ (s : Shared) (H : Hp) (C : Addr) (cl : List (Str × Addr)) (fp : List Addr) (Fb' : Gh), MTs T Fb' (X.blk s H scope (compEnvC scope cl C X.env) fp) ifs mt)
    (he : ∀ (s : Shared) (H : Hp) (C : Addr) (cl : List (Str × Addr)) (fp : List Addr) (Fb' : Gh), ME T Fb' (X.blk s H scope (compEnvC scope cl C X.env) fp) elt me)
    (hy : X.N[i]? = some y := by rfl) (hyl : X.env.scope.names.lookup y = some .local := by rfl) (hsw : swapsWith (.ListComp elt [⟨tg, iter, ifs, 0⟩] scope pos) (some (.Name y py)) spos.line X.env = pure true := by exact sw_true rfl rfl rfl (by decide +kernel))
    (hs : ∀ x, foldedSetIterable iter X.env x = pure x := by intro _; rfl) : MS T Fb X (.Assign [.Name y py] (.ListComp elt [⟨tg, iter, ifs, 0⟩] scope pos) spos)
      (match own' with
        | true => mSetO i (mComp (own.map (·.2)) mi g mt me)
        | false => mSet i (toE (mComp (own.map (·.2)) mi g mt me))) := by
  obtain ⟨wi, hpi, f⟩ := hi.ex
  refine ⟨fun σ H F ρ De S o => (ps_setLc hc hN hy hyl hsw hpi ok pg_blk pts_blk pe_blk hs).tw ?_⟩
  refine comp_core (own := own) f hg ht he S ?_
  cases own' with
  | true =>
    refine (OutS.toOut S o).imp fun ds _ o1 p vs H1 np s hp r => ?_
    obtain ⟨hl, o2⟩ := o1.put
    obtain ⟨q, S'⟩ := S.setO hl s np hp r
    exact o2 _ _ _ q S'
  | false =>
    refine (OutS.toOut S o).bind.imp fun ds _ o1 p vs H1 np s hp r => ?_
    obtain ⟨hl, o2⟩ := OutS.put (show OutS X T Fb De H F (put i (.v (.d (.lst ds))) ρ) from o1)
    exact o2 _ _ F (Post.of_same s) ((S.same s).setD hl ⟨p, vs, rfl, ⟨hp, fun z => absurd np (S.av p z)⟩, RepL.mono kept_less ds r⟩)
end
end Cr
/-! Core, part 11: raise, try, a def by its body. -/
namespace Cr
open PySem PySem.Spec PyProof.Rows L2
section
variable {T : CT} {X : Cx}
def iaddD : D → D → Res D
  | .int a, .int b => .ok (.int (a + b))
  | .str a, .str b => if a.length + b.length ≤ sizeLine then .ok (.str (a ++ b)) else .bad
  | _, _ => .bad
theorem om_isub : OpM T X (inplaceOp .Sub) subD := op_int0 (gi := fun i j => .int (i - j)) iop_sub (fun _ _ _ _ => rfl) (fun _ _ => rfl) (fun x y d h => by cases x <;> cases y <;> first | exact ⟨_, _, rfl, rfl⟩ | (exact nomatch h)) (fun x y e h => by cases x <;> cases y <;> exact nomatch h)
theorem om_iadd : OpM T X (inplaceOp .Add) iaddD := by
  refine ⟨_, (iop_add.or iop_add_str), fun σ H Av dx dy x y Q hav rx ry o => ?_⟩
  cases dx <;> cases dy <;> try exact False.elim o
  · exact .inl ⟨_, _, rx, ry, o _ _ (Same.refl H) rfl⟩
  · obtain ⟨hz, f⟩ := o.if
    exact .inr ⟨_, _, rx, ry, hz, f _ _ (Same.refl H) rfl⟩
end
/-- an own error class without __init__ -/
structure ExAt (K : PySem.W.Frag) (mg : Str → Option Value) (T : CT) (c : Nat) (x : Str) : Prop where
  g : mg x = some (.ref (T.addr c))
  q : PySem.W.excIn K (T.addr c) He.veBase "ValueError.__new__" = true
  k : PySem.W.keepIn K (.ref (T.addr c)) = true
  b : PySem.W.subIn K (.ref (T.addr c)) (.type "BaseException") = some true
  t : PySem.W.typeIn K (.ref (T.addr c)) = some (.type "type")
def mRaise (x : Exc) : Env → Flow := fun ρ => .er x ρ
section
variable {T : CT} {Fb : Gh} {X : Cx} {e a b c : Expr} {body suite : List Stmt} {m m2 : Env → Flow} {pos p p2 pos' np : Pos} {x msg : Str} {j : Nat}
theorem ms_raise {k : Nat} (hc : X.calm = true) (A : ExAt X.K X.mg T k x) (hg : Gl X x := by rfl) (hdb : (x == ("__debug__" : Str)) = false := by decide) : MS T Fb X (.Raise (some (.Call (.Name x p) [.Constant (.str msg) j p2] [] pos)) none pos') (mRaise (.own k)) := by
  refine ⟨fun σ H F ρ De S o => ?_⟩
  obtain ⟨W, tk, f⟩ := o
  exact (ps_raise hc tk (pmk_own PySem.F.excBase_ValueError A.q A.g A.k (raises_own A.b A.t) hg hdb)).tw (f _ _ σ H F Post.refl S ⟨rfl, rfl⟩)
def Exc.cl : Exc → Nat
  | .own c => c
  | .low c _ => c
def nerrF : Flow → Flow
  | .er _ _ => .bad
  | f => f
/-- try: body except c: suite -/
def mTry (cs : List Nat) (c : Nat) (m m2 : Env → Flow) : Env → Flow := fun ρ => match m ρ with
  | .er x ρ' => if x.cl ∈ cs then (if x.cl = c then nerrF (m2 ρ') else .er x ρ') else .bad
  | f => f
theorem ms_try {cs : List Nat} {c : Nat} {b₀ : Stmt} {suite : List Stmt} (hs : X.stack = X.env :: X.outer) (hf : X.env.frame = some X.env.locals) (g : X.mg x = some (.ref (T.addr c))) (hm : ∀ c' ∈ cs, PySem.W.exmOne X.K (.ref (T.addr c')) (.ref (T.addr c)) = some (decide (c' = c)))
    (hb : ∀ (pn : List (Addr × Obj)) (xe : Value → Shared → Prop), PassesOwn (model X.prog X.w) X.A X.env xe → MSs T Fb (X.tr pn xe) body m)
    (hsu : ∀ (a : Addr) (pn : List (Addr × Obj)), MSs T Fb (X.suite a pn) (b₀ :: suite) m2) (hg : Gl X x := by rfl) (hdb : (x == ("__debug__" : Str)) = false := by decide) :
    MS T Fb X (.Try body [.ExceptHandler (some (.Name x np)) none (b₀ :: suite) pos'] [] [] pos) (mTry cs c m m2) := by
  refine ⟨fun σ H F ρ De S o => ?_⟩
  obtain ⟨Wout, tk, out⟩ : ∃ Wout : WX, Takes X Wout ∧ ∀ y ρ', mTry cs c m m2 ρ = .er y ρ' → ∀ cls d σ' H' F', Post H F H' F' → StR (gx X T) Fb H' σ' ρ' F' → ExcRep (gx X T) H' y cls d → Wout cls d σ' H' := by
    cases q : mTry cs c m m2 ρ with
    | er y ρ' =>
      rw [q] at o
      obtain ⟨W, tk, f⟩ := o
      exact ⟨W, tk, fun y2 ρ2 e => by cases e; exact f⟩
    | nx ρ' => exact ⟨_, takes0, fun y2 ρ2 e => by cases e⟩
    | rt d ρ' => exact ⟨_, takes0, fun y2 ρ2 e => by cases e⟩
    | bad => exact ⟨_, takes0, fun y2 ρ2 e => by cases e⟩
  have ps := ps_try_only (X := X) (x := x) (c := .ref (T.addr c)) (body := body) (suite := suite) (b₀ := b₀) (np := np) (pos := pos) (pos' := pos') (Wout := Wout) (tb := fun W D σ H => ∀ (pn : List (Addr × Obj)) (xe : Value → Shared → Prop), Takes (X.tr pn xe) W → PassesOwn (model X.prog X.w) X.A X.env xe → TWss (X.tr pn xe) body D σ H)
    (ts := fun a cls d D σ H => ∀ (pn : List (Addr × Obj)), TWss (X.suite a pn) (b₀ :: suite) D σ H) hs hf ⟨hg, hdb, .inl g⟩ tk
    (fun W pn xe tk po => ⟨fun pins s σ H D I h => h pn xe tk po pins s I⟩) (fun a oe cls d pn hz hd => ⟨fun pins s σ H D I h => h _ pins s I⟩)
  refine ps.tw ?_
  intro pn xe tk' po
  refine (hb pn xe po).run σ H F ρ De S ?_
  unfold mTry at o out
  cases q : m ρ with
  | nx ρ' => rw [q] at o; exact o
  | rt d ρ' => rw [q] at o; exact o
  | bad => rw [q] at o; exact o
  | er y ρ' =>
    rw [q] at o out
    have o : OutS X T Fb De H F (if y.cl ∈ cs then (if y.cl = c then nerrF (m2 ρ') else .er y ρ') else .bad) := o
    have out : ∀ y2 ρ2, (if y.cl ∈ cs then (if y.cl = c then nerrF (m2 ρ') else .er y ρ') else .bad) = Flow.er y2 ρ2 → ∀ cls d σ' H' F', Post H F H' F' → StR (gx X T) Fb H' σ' ρ2 F' → ExcRep (gx X T) H' y2 cls d → Wout cls d σ' H' := out
    by_cases hcs : y.cl ∈ cs
    · rw [if_pos hcs] at o out
      refine ⟨_, tk', fun cls d σ' H' F' p S' r => ?_⟩
      have ecls : cls = .ref (T.addr y.cl) := by
        cases y with
        | own c' => exact r.1
        | low c' z => exact r.1
      refine ⟨decide (y.cl = c), by rw [ecls]; exact hm _ hcs, fun e a ha pn2 => ?_, fun e => ?_⟩
      · have e := of_decide_eq_true e
        rw [if_pos e] at o
        refine (hsu a pn2).run σ' H' F' ρ' De S' ?_
        have o := o.post p
        cases q2 : m2 ρ' with
        | nx ρ2 => rw [q2] at o; exact o
        | rt d ρ2 => rw [q2] at o; exact o
        | er z ρ2 => rw [q2] at o; exact False.elim o
        | bad => rw [q2] at o; exact o
      · have e := of_decide_eq_false e
        rw [if_neg e] at out
        exact out y ρ' rfl cls d σ' H' F' p S' r
    · rw [if_neg hcs] at o; exact False.elim o
end
/-! ### a def by its body -/
def startE (l : Nat) (ds : List D) : Env := ds.map (fun d => Sl.v (.d d)) ++ List.replicate (l - ds.length) .no
def runD (l : Nat) (m : Env → Flow) : List D → Res D := fun ds => match m (startE l ds) with
  | .nx _ => .ok .non
  | .rt d _ => .ok d
  | .er x _ => .err x
  | .bad => .bad
theorem repEnv_no {G : Gx} {H : Hp} {Av : Addr → Prop} : ∀ (k : Nat) (σ : L2.St), σ.length = k → RepEnv G H Av (List.replicate k .no) σ []
  | 0, σ, h => ⟨List.eq_nil_of_length_eq_zero h, rfl⟩
  | k + 1, [], h => by cases h
  | k + 1, o :: σ, h => ⟨o, σ, [], [], rfl, rfl, rfl, repEnv_no k σ (by simpa using h)⟩
theorem repEnv_start {G : Gx} {H : Hp} {Av : Addr → Prop} {k : Nat} : ∀ {ds : List D} {vs : List V}, RepL G H Av ds vs → RepEnv G H Av (ds.map (fun d => Sl.v (.d d)) ++ List.replicate k .no) (vs.map some ++ List.replicate k none) []
  | [], vs, r => by
    have r : vs = [] := r
    subst r
    exact repEnv_no k _ (by simp)
  | d :: ds, vs, r => by
    obtain ⟨v, vr, rfl, r1, r2⟩ := r
    exact ⟨some v, _, [], [], rfl, rfl, ⟨v, rfl, rfl, r1⟩, repEnv_start r2⟩
theorem Post.nil_same {H H' : Hp} {F' : List Addr} (p : Post H [] H' F') : Same H H' := fun a o h => p.keep a o h (by simp)
section
variable {P : Program} {w : World} {K : PySem.W.Frag} {mg : Str → Option Value} {base : Heap} {T : CT} {x qual : Str} {params : Arguments} {body : List Stmt} {scope : Scope} {dvs : List V} {kws : List (Str × V)} {f : Addr} {fd : FuncData} {N ps : List Str} {k n : Nat}
theorem fn_ok {m : Env → Flow} (F : FunD K x qual params body scope dvs kws f fd) (S : FnScope N ps scope) (hps : ps.length = n)
    (hb : ∀ (cdv : Value) (A : Around) (outer : List PySem.Env) (s : Shared) (H : Hp) (E : XK) (Fb : Gh), Room k (A.deeper (envOfC qual scope s.heap.objs.size f cdv)) → MSs T Fb (cxOf (L2.CX P w) P w K mg base N qual scope f cdv A outer s H E) body m) :
    FnOk P w K mg base (L2.CX P w) (k + 1) f fd ps (spD K T n (runD N.length m)) := by
  refine F.ok S (fun vs H Q E h => by rw [hps]; exact h.1) fun cdv A outer s H vs Q E hr h => ⟨_, pss_tw, ?_⟩
  obtain ⟨hl, Av, ds, hav, r, o⟩ := h
  refine (hb cdv A outer s H E ⟨Av, none⟩ hr).run _ H [] (startE N.length ds) _ ?_ ?_
  · have e : avo ⟨Av, none⟩ [] = Av := funext fun a => propext ⟨fun z => z.elim (fun z => by cases z) id, .inr⟩
    refine ⟨⟨[], ?_, List.nodup_nil, fun a ha => absurd ha (by simp)⟩, fun a ha => absurd ha (by simp), fun a h => ⟨hav a h, by simp⟩, fun _ h => nomatch h⟩
    rw [e]
    unfold L2.start startE
    rw [r.length]
    exact repEnv_start r
  · have toAv : ∀ {F' : List Addr} {H' : Hp} {d : D} {v : V}, Rep ⟨K, T⟩ H' (avo ⟨Av, none⟩ F') d v → Rep ⟨K, T⟩ H' Av d v := fun {F' H' d v} r => Rep.mono (kept_sub fun a z => .inr z) d r
    unfold runD at o
    cases q : m (startE N.length ds) with
    | nx ρ' => rw [q] at o; exact fun σ' H' F' p S' => o .non H' p.nil_same rfl
    | rt d ρ' => rw [q] at o; exact fun v σ' H' F' p S' r => o v H' p.nil_same (toAv r)
    | er z ρ' =>
      rw [q] at o
      exact ⟨_, takes_of rfl rfl rfl rfl, fun cls d σ' H' F' p S' r => o cls d H' p.nil_same r⟩
    | bad => rw [q] at o; exact o
theorem fn_bad (h0 : FunD K x qual params body scope dvs kws f fd) : FnOk P w K mg base (L2.CX P w) k f fd ps (spD K T n (fun _ => .bad)) :=
  ⟨fun vs H Q E h => by obtain ⟨_, _, _, _, _, z⟩ := h; exact False.elim z, fun A outer s H args us vs Q E _ _ _ _ h => by obtain ⟨_, _, _, _, _, z⟩ := h; exact False.elim z⟩
end
end Cr
/-! Core, part 12: __init__: self, its fields. -/
namespace Cr
open PySem PySem.Spec PyProof.Rows L2
def putFd (f : Str) (x : Fd) : List (Str × Fd) → List (Str × Fd)
  | [] => [(f, x)]
  | (g, y) :: r => if g = f then (g, x) :: r else (g, y) :: putFd f x r
section
variable {G : Gx} {H H' : Hp} {Av Av' : Addr → Prop}
theorem RepFs.keys : ∀ {fs : List (Str × Fd)} {vs : List (Str × V)} {fp : List Addr}, RepFs G H Av fs vs fp → vs.map (·.1) = fs.map (·.1)
  | [], _, _, h => by rw [h.1]; rfl
  | (n, f) :: fs, _, _, h => by
    obtain ⟨v, vr, p, q, rfl, _, _, h2⟩ := h
    rw [List.map_cons, List.map_cons, RepFs.keys h2]
theorem RepFs.len {fs : List (Str × Fd)} {vs : List (Str × V)} {fp : List Addr} (h : RepFs G H Av fs vs fp) : vs.length = fs.length := by
  have := congrArg List.length h.keys
  simpa using this
theorem RepFs.look : ∀ {fs : List (Str × Fd)} {vs : List (Str × V)} {fp : List Addr} {n : Str} {f : Fd}, RepFs G H Av fs vs fp → fs.lookup n = some f → ∃ v p, vs.lookup n = some v ∧ RepFd G H Av f v p
  | [], _, _, _, _, _, e => by cases e
  | (m, g) :: fs, _, _, n, f, h, e => by
    obtain ⟨v, vr, p, q, rfl, _, h1, h2⟩ := h
    rw [List.lookup_cons] at e ⊢
    cases b : (n == m) with
    | true => rw [b] at e; cases e; exact ⟨v, p, rfl, h1⟩
    | false => rw [b] at e; exact RepFs.look h2 e
/-- a field takes a thing whose places are p' -/
theorem RepFs.put (k : Kept H H' Av Av') (n : Str) {f : Fd} {v : V} {p' : List Addr} (r : RepFd G H' Av' f v p') : ∀ {fs : List (Str × Fd)} {vs : List (Str × V)} {fp : List Addr}, RepFs G H Av fs vs fp → (∀ a ∈ fp, H' a = H a) → fp.Nodup → p'.Nodup → (∀ a ∈ p', a ∉ fp) →
    ∃ fp', RepFs G H' Av' (putFd n f fs) (putF n v vs) fp' ∧ fp'.Nodup ∧ ∀ a ∈ fp', a ∈ fp ∨ a ∈ p'
  | [], _, _, h, _, _, nd, _ => by
    obtain ⟨rfl, rfl⟩ := h
    exact ⟨p', ⟨v, [], p', [], rfl, by simp, r, rfl, rfl⟩, nd, fun a ha => .inr ha⟩
  | (m, g) :: fs, _, _, h, hf, nf, nd, dj => by
    obtain ⟨w, vr, p, q, rfl, rfl, h1, h2⟩ := h
    obtain ⟨n1, n2, n3⟩ := List.nodup_append.mp nf
    show ∃ fp', RepFs G H' Av' (if m = n then (m, f) :: fs else (m, g) :: putFd n f fs) (if m = n then (m, v) :: vr else (m, w) :: putF n v vr) fp' ∧ _
    by_cases e : m = n
    · rw [if_pos e, if_pos e]
      refine ⟨p' ++ q, ⟨v, vr, p', q, rfl, rfl, r, h2.mono k fun a ha => hf a (List.mem_append_right _ ha)⟩, List.nodup_append.mpr ⟨nd, n2, fun a ha b hb z => dj a ha (by rw [z]; exact List.mem_append_right _ hb)⟩, fun a ha => ?_⟩
      rcases List.mem_append.mp ha with z | z
      · exact .inr z
      · exact .inl (List.mem_append_right _ z)
    · rw [if_neg e, if_neg e]
      obtain ⟨q', k1, k2, k3⟩ := RepFs.put k n r h2 (fun a ha => hf a (List.mem_append_right _ ha)) n2 nd (fun a ha z => dj a ha (List.mem_append_right _ z))
      refine ⟨p ++ q', ⟨w, _, p, q', rfl, rfl, h1.mono k fun a ha => hf a (List.mem_append_left _ ha), k1⟩, List.nodup_append.mpr ⟨n1, k2, fun a ha b hb z => ?_⟩, fun a ha => ?_⟩
      · rcases k3 b hb with y | y
        · exact n3 a ha b y z
        · exact dj b y (by rw [← z]; exact List.mem_append_left _ ha)
      · rcases List.mem_append.mp ha with z | z
        · exact .inl (List.mem_append_left _ z)
        · rcases k3 a z with y | y
          · exact .inl (List.mem_append_right _ y)
          · exact .inr y
/-- an owned field's list is changed -/
theorem RepFs.chg (n : Str) : ∀ {fs : List (Str × Fd)} {vs : List (Str × V)} {fp : List Addr} {xs : List D}, RepFs G H Av fs vs fp → fs.lookup n = some (.ol xs) → fp.Nodup →
    ∃ a ws, vs.lookup n = some (.ref a) ∧ H a = some (.lst ws) ∧ RepL G H Av xs ws ∧ a ∈ fp ∧ ∀ {H' : Hp} {Av' : Addr → Prop} {ys : List D} {zs : List V}, Kept H H' Av Av' → (∀ b ∈ fp, b ≠ a → H' b = H b) → H' a = some (.lst zs) → RepL G H' Av' ys zs → RepFs G H' Av' (putFd n (.ol ys) fs) vs fp
  | [], _, _, _, _, e, _ => by cases e
  | (m, g) :: fs, _, _, xs, h, e, nf => by
    obtain ⟨w, vr, p, q, rfl, rfl, h1, h2⟩ := h
    obtain ⟨n1, n2, n3⟩ := List.nodup_append.mp nf
    rw [List.lookup_cons] at e
    cases b : (n == m) with
    | true =>
      rw [b] at e
      have e : some g = some (.ol xs) := e
      cases e
      obtain ⟨a, ws, rfl, rfl, k1, k2⟩ := h1
      have hm : m = n := (beq_iff_eq.mp b).symm
      refine ⟨a, ws, by rw [List.lookup_cons, b], k1, k2, by simp, fun {H' Av' ys zs} k hk ha r => ?_⟩
      show RepFs G H' Av' (if m = n then (m, .ol ys) :: fs else _) _ _
      rw [if_pos hm]
      exact ⟨_, vr, [a], q, rfl, rfl, ⟨a, zs, rfl, rfl, ha, r⟩, h2.mono k fun b hb => hk b (List.mem_append_right _ hb) fun z => n3 a (by simp) b hb z.symm⟩
    | false =>
      rw [b] at e
      have hm : ¬ m = n := fun z => by rw [z, beq_self_eq_true] at b; cases b
      obtain ⟨a, ws, k1, k2, k3, k4, f⟩ := RepFs.chg n h2 e n2
      refine ⟨a, ws, by rw [List.lookup_cons, b]; exact k1, k2, k3, List.mem_append_right _ k4, fun {H' Av' ys zs} k hk ha r => ?_⟩
      show RepFs G H' Av' (if m = n then _ else (m, g) :: putFd n (.ol ys) fs) _ _
      rw [if_neg hm]
      exact ⟨w, vr, p, q, rfl, rfl, h1.mono k fun b hb => hk b (List.mem_append_left _ hb) fun z => n3 b hb a k4 z, f k (fun b hb => hk b (List.mem_append_right _ hb)) ha r⟩
end
section
variable {G : Gx} {Fb : Gh} {H H' : Hp} {σ : L2.St} {ρ : Env} {F : List Addr} {i c : Nat} {fs : List (Str × Fd)}
/-- self: its parts -/
theorem StR.self (S : StR G Fb H σ ρ F) (e : ρ[i]? = some (.oo c fs)) : ∃ a dx vs p, σ[i]? = some (some (.ref a)) ∧ H a = some (.ins (G.T.addr c) dx vs) ∧ RepFs G H (avo Fb F) fs vs p ∧ a ∈ F ∧ (∀ b ∈ p, b ∈ F) ∧ a ∉ p ∧ p.Nodup := by
  obtain ⟨F0, r0, nd, sub⟩ := S.ex
  obtain ⟨o, p1, p, p2, e1, e2, r1, f⟩ := r0.focus e
  obtain ⟨a, dx, vs, q, rfl, rfl, h1, h2⟩ := r1
  rw [e2] at nd
  have n2 := (List.nodup_append.mp (List.nodup_append.mp nd).1).2.1
  obtain ⟨n3, n4⟩ := List.nodup_cons.mp n2
  exact ⟨a, dx, vs, q, e1, h1, h2, sub a (by rw [e2]; simp), fun b hb => sub b (by rw [e2]; simp [hb]), n3, n4⟩
/-- self: its parts, and what comes when they change -/
theorem StR.selfU (S : StR G Fb H σ ρ F) (e : ρ[i]? = some (.oo c fs)) : ∃ a dx vs p, σ[i]? = some (some (.ref a)) ∧ H a = some (.ins (G.T.addr c) dx vs) ∧ RepFs G H (avo Fb F) fs vs p ∧ a ∈ F ∧ (∀ b ∈ p, b ∈ F) ∧ a ∉ p ∧ p.Nodup ∧
    ∀ {H' : Hp} {F' p' : List Addr} {fs' : List (Str × Fd)} {vs' : List (Str × V)}, Post H F H' F' → (∀ b ∈ F, b ∈ F') → (∀ b ∈ F', H' b ≠ none) → RepFs G H' (avo Fb F') fs' vs' p' → p'.Nodup → (∀ b ∈ p', b ∈ p ∨ (b ∈ F' ∧ H b = none)) →
      H' a = some (.ins (G.T.addr c) dx vs') → (∀ b ∈ F, b ≠ a → b ∉ p → H' b = H b) → StR G Fb H' σ (ρ.set i (.oo c fs')) F' := by
  obtain ⟨F0, r0, nd, sub⟩ := S.ex
  obtain ⟨o, p1, p, p2, e1, e2, r1, f⟩ := r0.focus e
  obtain ⟨a, dx, vs, q, rfl, rfl, h1, h2⟩ := r1
  rw [e2] at nd
  have n2 := (List.nodup_append.mp (List.nodup_append.mp nd).1).2.1
  obtain ⟨n3, n4⟩ := List.nodup_cons.mp n2
  have m0 : ∀ b ∈ p1 ++ a :: q ++ p2, b ∈ F := fun b hb => sub b (by rw [e2]; exact hb)
  have d1 : ∀ b ∈ p1, b ≠ a ∧ b ∉ q := fun b hb => ⟨fun z => (List.nodup_append.mp (List.nodup_append.mp nd).1).2.2 b hb a (by simp) z, fun z => (List.nodup_append.mp (List.nodup_append.mp nd).1).2.2 b hb b (by simp [z]) rfl⟩
  have d2 : ∀ b ∈ p2, b ≠ a ∧ b ∉ q := fun b hb => ⟨fun z => (List.nodup_append.mp nd).2.2 a (by simp) b hb z.symm, fun z => (List.nodup_append.mp nd).2.2 b (by simp [z]) b hb rfl⟩
  refine ⟨a, dx, vs, q, e1, h1, h2, m0 a (by simp), fun b hb => m0 b (by simp [hb]), n3, n4, fun {H' F' p' fs' vs'} post hF dom r ndp subp ha oth => ?_⟩
  have k := f (s' := .oo c fs') (o' := some (.ref a)) (p' := a :: p') (post.kept (Fb := Fb)) (fun b hb => oth b (m0 b (by simp [hb])) (d1 b hb).1 (d1 b hb).2) (fun b hb => oth b (m0 b (by simp [hb])) (d2 b hb).1 (d2 b hb).2) ⟨a, dx, vs', p', rfl, rfl, ha, r⟩
  rw [set_same e1] at k
  have hda : H a ≠ none := by rw [h1]; exact fun z => by cases z
  have na : a ∉ p' := fun z => (subp a z).elim n3 fun y => hda y.2
  have x1 : ∀ b ∈ p1, b ∉ p' := fun b hb z => (subp b z).elim (d1 b hb).2 fun y => S.dom b (m0 b (by simp [hb])) y.2
  have x2 : ∀ b ∈ p2, b ∉ p' := fun b hb z => (subp b z).elim (d2 b hb).2 fun y => S.dom b (m0 b (by simp [hb])) y.2
  have sf : ∀ a, Fb.me = some a → σ[0]? = some (some (.ref a)) ∧ ∃ c3 f3, (ρ.set i (.oo c fs'))[0]? = some (.oo c3 f3) := fun a h => by
    obtain ⟨h1, c2, fs2, h2⟩ := S.sf a h
    by_cases h0 : i = 0
    · subst h0
      exact ⟨h1, c, fs', List.getElem?_set_self (List.getElem?_eq_some_iff.mp e).1⟩
    · exact ⟨h1, c2, fs2, by rw [List.getElem?_set_ne h0]; exact h2⟩
  refine ⟨⟨_, k, ?_, fun b hb => ?_⟩, dom, fun b h => ?_, sf⟩
  · obtain ⟨y1, y2, y3⟩ := List.nodup_append.mp nd
    obtain ⟨z1, z2, z3⟩ := List.nodup_append.mp y1
    refine List.nodup_append.mpr ⟨List.nodup_append.mpr ⟨z1, List.nodup_cons.mpr ⟨na, ndp⟩, fun b hb d hd w => ?_⟩, y2, fun b hb d hd w => ?_⟩
    · rcases List.mem_cons.mp hd with y | y
      · exact (d1 b hb).1 (w.trans y)
      · exact x1 b hb (by rw [w]; exact y)
    · rcases List.mem_append.mp hb with y | y
      · exact y3 b (List.mem_append_left _ y) d hd w
      · rcases List.mem_cons.mp y with y | y
        · exact (d2 d hd).1 (w.symm.trans y)
        · exact x2 d hd (by rw [← w]; exact y)
  · rcases List.mem_append.mp hb with y | y
    · rcases List.mem_append.mp y with y | y
      · exact hF b (m0 b (by simp [y]))
      · rcases List.mem_cons.mp y with y | y
        · rw [y]; exact hF a (m0 a (by simp))
        · exact (subp b y).elim (fun z => hF b (m0 b (by simp [z]))) (·.1)
    · exact hF b (m0 b (by simp [y]))
  · have hb := S.fb b h
    cases q : H b with
    | none => exact absurd q hb.1
    | some o =>
      have k2 := post.keep b o q hb.2
      refine ⟨by rw [k2]; exact fun z => (by cases z), fun z => ?_⟩
      rcases post.own b z with y | y
      · exact hb.2 y
      · rw [q] at y; cases y
end
/-! ### statements about self -/
section
variable {T : CT} {Fb : Gh} {X : Cx} {e o : Expr} {es : List Expr} {me : Env → Res D} {pos p apos : Pos} {x f : Str} {i c : Nat}
def fdD : Fd → D
  | .d x => x
  | .ol xs => .lst xs
/-- self.f, read (borrowed) -/
def mSelfB (i c : Nat) (f : Str) : Env → Res D := fun ρ => match ρ[i]? with
  | some (.oo c' fs) => if c' = c then opt ((fs.lookup f).map fdD) else .bad
  | _ => .bad
theorem mb_self (i c : Nat) {pos' : Pos} (cl : Cls X.K (T.addr c)) (na : NoAttr X.K (T.addr c) f) (hN : X.N[i]? = some x := by rfl) (hv : Vis X.env.scope x := by first | exact Or.inl rfl | exact Or.inr (Or.inl rfl) | exact Or.inr (Or.inr rfl))
    (hd : (x == ("__debug__" : Str)) = false := by decide) (hcd : (x == ("__classdict__" : Str)) = false := by decide) (hb : attributeBase (.Name x pos') f X.env (eval (.Name x pos') X.env) = eval (.Name x pos') X.env := by rfl) : MB T Fb X (.Attribute (.Name x pos') f pos) (mSelfB i c f) := by
  refine ⟨fun σ H F ρ Q S o => (pe_fld (pe_var hN hv hd hcd) hb).tw ?_⟩
  unfold mSelfB at o
  split at o
  · rename_i c' fs e
    by_cases hc : c' = c
    · subst hc
      rw [if_pos rfl] at o
      obtain ⟨d, e2, q⟩ := o.opt
      obtain ⟨a, dx, vs, p, e1, h1, h2, _⟩ := S.self e
      cases l : fs.lookup f with
      | none => rw [l] at e2; cases e2
      | some g =>
        rw [l] at e2
        cases e2
        obtain ⟨v, pp, l2, r⟩ := h2.look l
        refine ⟨_, e1, a, _, dx, vs, v, rfl, h1, cl, na, l2, q v H (Same.refl H) ?_⟩
        cases g with
        | d y => exact r.2.b
        | ol xs => obtain ⟨b, ws, rfl, _, k1, k2⟩ := r; exact ⟨b, ws, rfl, k1, k2⟩
    · rw [if_neg hc] at o; exact False.elim o
  · exact False.elim o
/-- self.f = e -/
def mSelfSet (i c : Nat) (f : Str) (m : Env → Res D) : Env → Flow := fun ρ => bindF (m ρ) ρ fun d => match ρ[i]? with
  | some (.oo c' fs) => if c' = c ∧ fs.length < 1000 then .nx (ρ.set i (.oo c (putFd f (.d d) fs))) else .bad
  | _ => .bad
theorem ms_selfSet (i c : Nat) {pos' p0 : Pos} (cl : Cls X.K (T.addr c)) (na : NoAttr X.K (T.addr c) f) (he : ME T Fb X e me) (hN : X.N[i]? = some x := by rfl) (hv : Vis X.env.scope x := by first | exact Or.inl rfl | exact Or.inr (Or.inl rfl) | exact Or.inr (Or.inr rfl))
    (hd : (x == ("__debug__" : Str)) = false := by decide) (hcd : (x == ("__classdict__" : Str)) = false := by decide) (hs : swapsWith e (some (.Attribute (.Name x p0) f pos')) pos.line X.env = pure false := by rfl) : MS T Fb X (.Assign [.Attribute (.Name x p0) f pos'] e pos) (mSelfSet i c f me) := by
  refine ⟨fun σ H F ρ De S o => (ps_fld (pe_var hN hv hd hcd) pe_tw hs).tw ?_⟩
  refine he.run σ H F ρ _ S ((OutS.toOut S o).imp fun d _ o1 v H1 s r => ?_)
  have S1 := S.same s
  split at o1
  · rename_i c' fs e
    obtain ⟨⟨hc, hl⟩, o2⟩ := OutS.if o1
    subst hc
    obtain ⟨a, dx, vs, p, e1, h1, h2, mF, pF, nap, ndp, k⟩ := S1.selfU e
    refine ⟨_, e1, a, _, dx, vs, rfl, h1, cl, na, by rw [h2.len]; exact hl, ?_⟩
    have post : Post H1 F (upd H1 a (.ins (T.addr c') dx (putF f v vs))) F := ⟨fun b u h n => by rw [upd_ne fun z => n (by rw [z]; exact mF)]; exact h, fun _ h => .inl h⟩
    obtain ⟨fp, q1, q2, q3⟩ := RepFs.put (post.kept (Fb := Fb)) f (f := .d d) (p' := []) ⟨rfl, Rep.mono post.kept d r⟩ h2 (fun b hb => upd_ne fun z => nap (by rw [← z]; exact hb)) ndp List.nodup_nil (fun b hb => absurd hb (by simp))
    refine o2 σ _ F ((Post.of_same s).trans post) (k post (fun _ h => h) (fun b hb => ?_) q1 q2 (fun b hb => (q3 b hb).elim .inl fun z => absurd z (by simp)) upd_same fun b _ n _ => upd_ne n)
    by_cases z : b = a
    · rw [z, upd_same]; exact fun z => by cases z
    · rw [upd_ne z]; exact S1.dom b hb
  · exact False.elim o1
/-- self.f = a new list -/
def mSelfSetO (i c : Nat) (f : Str) (m : Env → Res (List D)) : Env → Flow := fun ρ => bindF (m ρ) ρ fun d => match ρ[i]? with
  | some (.oo c' fs) => if c' = c ∧ fs.length < 1000 then .nx (ρ.set i (.oo c (putFd f (.ol d) fs))) else .bad
  | _ => .bad
theorem ms_selfSetO (i c : Nat) {mf : Env → Res (List D)} {pos' p0 : Pos} (cl : Cls X.K (T.addr c)) (na : NoAttr X.K (T.addr c) f) (he : MF T Fb X e mf) (hN : X.N[i]? = some x := by rfl) (hv : Vis X.env.scope x := by first | exact Or.inl rfl | exact Or.inr (Or.inl rfl) | exact Or.inr (Or.inr rfl))
    (hd : (x == ("__debug__" : Str)) = false := by decide) (hcd : (x == ("__classdict__" : Str)) = false := by decide) (hs : swapsWith e (some (.Attribute (.Name x p0) f pos')) pos.line X.env = pure false := by rfl) : MS T Fb X (.Assign [.Attribute (.Name x p0) f pos'] e pos) (mSelfSetO i c f mf) := by
  refine ⟨fun σ H F ρ De S o => (ps_fld (pe_var hN hv hd hcd) pe_tw hs).tw ?_⟩
  refine he.run σ H F ρ _ S ((OutS.toOut S o).imp fun d _ o1 q ws H1 nq s hq r => ?_)
  have S1 := S.same s
  split at o1
  · rename_i c' fs e
    obtain ⟨⟨hc, hl⟩, o2⟩ := OutS.if o1
    subst hc
    obtain ⟨a, dx, vs, p, e1, h1, h2, mF, pF, nap, ndp, k⟩ := S.selfU e
    have h1' := s _ _ h1
    refine ⟨_, e1, a, _, dx, vs, rfl, h1', cl, na, by rw [h2.len]; exact hl, ?_⟩
    have nqF : q ∉ F := fun z => S.dom q z nq
    have nqa : q ≠ a := fun z => nqF (by rw [z]; exact mF)
    have post : Post H F (upd H1 a (.ins (T.addr c') dx (putF f (.ref q) vs))) (q :: F) := ⟨fun b u h n => by rw [upd_ne fun z => n (by rw [z]; exact mF)]; exact s _ _ h, fun b z => (List.mem_cons.mp z).elim (fun e => .inr (by rw [e]; exact nq)) .inl⟩
    have k0 : Kept H1 (upd H1 a (.ins (T.addr c') dx (putF f (.ref q) vs))) (fun b => b = q ∨ avo Fb F b) (avo Fb (q :: F)) := ⟨fun b u h n => by rw [upd_ne fun z => n (.inr (.inl (by rw [z]; exact mF)))]; exact h, fun b z => .inl (by
      rcases z with z | z
      · rcases List.mem_cons.mp z with z | z
        · exact .inl z
        · exact .inr (.inl z)
      · exact .inr (.inr z))⟩
    have un : ∀ b ∈ F, b ≠ a → upd H1 a (.ins (T.addr c') dx (putF f (.ref q) vs)) b = H b := fun b hb n => by rw [upd_ne n, same_at s (S.dom b hb)]
    obtain ⟨fp, q1, q2, q3⟩ := RepFs.put (post.kept (Fb := Fb)) f (f := .ol d) (v := .ref q) (p' := [q]) ⟨q, ws, rfl, rfl, by rw [upd_ne nqa]; exact hq, RepL.mono k0 d r⟩ h2 (fun b hb => un b (pF b hb) fun z => nap (by rw [← z]; exact hb)) ndp (by simp) (fun b hb z => by
      rw [List.mem_singleton.mp hb] at z
      exact nqF (pF q z))
    refine o2 σ _ (q :: F) post (k post (fun _ h => List.mem_cons_of_mem _ h) (fun b hb => ?_) q1 q2 (fun b hb => (q3 b hb).imp id fun z => by rw [List.mem_singleton.mp z]; exact ⟨List.mem_cons_self, nq⟩) upd_same fun b hb n _ => un b hb n)
    rcases List.mem_cons.mp hb with z | z
    · rw [z, upd_ne nqa, hq]; exact fun z => by cases z
    · by_cases y : b = a
      · rw [y, upd_same]; exact fun z => by cases z
      · rw [un b z y]; exact S.dom b z
  · exact False.elim o1
/-- self.f.append(..) -/
def mSelfLm (i c : Nat) (f : Str) (g : List D → List D → Res (List D)) (ms : Env → Res (List D)) : Env → Flow := fun ρ => match ρ[i]? with
  | some (.oo c' fs) => if c' = c then (match fs.lookup f with
    | some (.ol xs) => bindF (ms ρ) ρ fun ds => bindF (g xs ds) ρ fun ys => .nx (ρ.set i (.oo c (putFd f (.ol ys) fs)))
    | _ => .bad) else .bad
  | _ => .bad
theorem ms_selfLw (i c : Nat) {mid : String} {nm : Str} {p2 p3 : Pos} {g : List D → List D → Res (List D)} {ms : Env → Res (List D)} (cl : Cls X.K (T.addr c)) (na : NoAttr X.K (T.addr c) f) (hM : LstW T X mid g) (ha : ML T Fb X es ms)
    (hpe : ∀ {r : V → List V → Hp → VK → Prop} {to : TE} {t : TA}, MtR X mid r → PE X (.Attribute (.Name x p2) f p3) to → PA X es t → PE X (.Call (.Attribute (.Attribute (.Name x p2) f p3) nm apos) es [] p) (tBM X.K "list" r to t))
    (hN : X.N[i]? = some x := by rfl) (hv : Vis X.env.scope x := by first | exact Or.inl rfl | exact Or.inr (Or.inl rfl) | exact Or.inr (Or.inr rfl))
    (hd : (x == ("__debug__" : Str)) = false := by decide) (hcd : (x == ("__classdict__" : Str)) = false := by decide) (hb : attributeBase (.Name x p2) f X.env (eval (.Name x p2) X.env) = eval (.Name x p2) X.env := by rfl)
    (hs : swapsWith (.Call (.Attribute (.Attribute (.Name x p2) f p3) nm apos) es [] p) none pos.line X.env = pure false := by rfl) :
    MS T Fb X (.Expr (.Call (.Attribute (.Attribute (.Name x p2) f p3) nm apos) es [] p) pos) (mSelfLm i c f g ms) := by
  obtain ⟨r, hr, fm⟩ := hM.ex
  refine ⟨fun σ H F ρ De S o => (ps_expr (hpe hr (pe_fld (pe_var hN hv hd hcd) hb) pa_tw) hs).tw ?_⟩
  unfold mSelfLm at o
  split at o
  · rename_i c' fs e
    by_cases hc : c' = c
    · subst hc
      rw [if_pos rfl] at o
      split at o
      · rename_i xs l
        obtain ⟨a, dx, vs, pp, e1, h1, h2, mF, pF, nap, ndp, k⟩ := S.selfU e
        obtain ⟨b, ws, l2, k1, k2, k3, _⟩ := RepFs.chg f h2 l ndp
        refine ⟨_, e1, a, _, dx, vs, _, rfl, h1, cl, na, l2, .inl ⟨rfl, ws, SqL.of k1⟩, ?_⟩
        refine ha.run σ H F ρ _ S ((OutS.toOut S o).imp fun ds _ o1 us H1 s1 r1 => ?_)
        have S1 := S.same s1
        obtain ⟨a', dx', vs', pp', e1', h1', h2', mF', pF', nap', ndp', kk⟩ := S1.selfU e
        rw [e1] at e1'
        cases e1'
        obtain ⟨b', ws', l2', k1', k2', k3', kc⟩ := RepFs.chg f h2' l ndp'
        have hvs : vs' = vs := by
          have q := s1 _ _ h1
          rw [h1'] at q
          cases q
          rfl
        subst hvs
        rw [l2] at l2'
        cases l2'
        have nba : b ≠ a := fun z => nap' (by rw [← z]; exact k3')
        refine fm σ H1 (avo Fb F) b xs ds ws' us _ k1' k2' r1 ((OutS.toOut S1 (o1.same s1)).imp fun ys _ o2 zs r3 => ?_)
        have post : Post H1 F (upd H1 b (.lst zs)) F := ⟨fun d u h n => by rw [upd_ne fun z => n (by rw [z]; exact pF' b k3')]; exact h, fun _ h => .inl h⟩
        refine o2 σ _ F post (kk post (fun _ h => h) (fun d hd => ?_) (kc post.kept (fun d _ n => upd_ne n) upd_same (RepL.mono post.kept ys r3)) ndp' (fun d hd => .inl hd) (by rw [upd_ne nba.symm]; exact h1') fun d _ n1 n2 => upd_ne fun z => n2 (by rw [z]; exact k3'))
        by_cases z : d = b
        · rw [z, upd_same]; exact fun z => by cases z
        · rw [upd_ne z]; exact S1.dom d hd
      · exact False.elim o
    · rw [if_neg hc] at o; exact False.elim o
  · exact False.elim o
end
/-! ### __init__ by its body -/
def startI (l c : Nat) (ds : List D) : Env := .oo c [] :: (ds.map (fun d => Sl.v (.d d)) ++ List.replicate (l - (ds.length + 1)) .no)
def finI (c : Nat) (ρ : Env) : Res (List D) := match ρ with
  | .oo c' fs :: _ => if c' = c ∧ fs.map (·.1) = flds c then .ok (fs.map fun p => fdD p.2) else .bad
  | _ => .bad
def runI (l c : Nat) (m : Env → Flow) : List D → Res (List D) := fun ds => match m (startI l c ds) with
  | .nx ρ => finI c ρ
  | .er x _ => .err x
  | _ => .bad
theorem RepFs.whole {G : Gx} {H : Hp} {Av Av' : Addr → Prop} (ha : ∀ b, Av' b → Av b) : ∀ {fs : List (Str × Fd)} {vs : List (Str × V)} {fp : List Addr}, RepFs G H Av fs vs fp → (∀ b ∈ fp, ¬ Av' b) → RepL G H Av' (fs.map fun p => fdD p.2) (vs.map (·.2))
  | [], _, _, h, _ => by rw [h.1]; rfl
  | (n, f) :: fs, _, _, h, hn => by
    obtain ⟨v, vr, p, q, rfl, rfl, h1, h2⟩ := h
    refine ⟨v, _, rfl, ?_, RepFs.whole ha h2 fun b hb => hn b (List.mem_append_right _ hb)⟩
    cases f with
    | d x => exact Rep.mono (kept_sub ha) x h1.2
    | ol xs =>
      obtain ⟨a, ws, rfl, rfl, k1, k2⟩ := h1
      exact ⟨a, ws, rfl, ⟨k1, hn a (by simp)⟩, RepL.mono (kept_sub ha) xs k2⟩
theorem zip_fst_snd {α β : Type} : ∀ l : List (α × β), (l.map (·.1)).zip (l.map (·.2)) = l
  | [] => rfl
  | (a, b) :: l => by rw [List.map_cons, List.map_cons, List.zip_cons_cons, zip_fst_snd l]
section
variable {P : Program} {w : World} {K : PySem.W.Frag} {mg : Str → Option Value} {base : Heap} {T : CT} {x qual : Str} {params : Arguments} {body : List Stmt} {scope : Scope} {dvs : List V} {kws : List (Str × V)} {f : Addr} {fd : FuncData} {N ps : List Str} {k n c : Nat}
theorem init_ok {m : Env → Flow} (F : FunD K x qual params body scope dvs kws f fd) (S : FnScope N ps scope) (hps : ps.length = n + 1)
    (hb : ∀ (cdv : Value) (A : Around) (outer : List PySem.Env) (s : Shared) (H : Hp) (E : XK) (Fb : Gh), Room k (A.deeper (envOfC qual scope s.heap.objs.size f cdv)) → MSs T Fb (cxOf (L2.CX P w) P w K mg base N qual scope f cdv A outer s H E) body m) :
    FnOk P w K mg base (L2.CX P w) (k + 1) f fd ps (spI K T c n (runI N.length c m)) := by
  refine F.ok S (fun vs H Q E h => by rw [hps]; exact h.1) fun cdv A outer s H vs Q E hr h => ⟨_, pss_tw, ?_⟩
  obtain ⟨hl, Av, ds, a, dx, vr, rfl, hav, nax, hx, r, o⟩ := h
  have eA : (fun b => b = a ∨ Av b) = avo ⟨Av, some a⟩ [a] := funext fun b => propext ⟨fun z => z.elim (fun z => .inl (by simp [z])) .inr, fun z => z.elim (fun z => .inl (by simpa using z)) .inr⟩
  rw [eA] at r
  refine (hb cdv A outer s H E ⟨Av, some a⟩ hr).run _ H [a] (startI N.length c ds) _ ?_ ?_
  · refine ⟨⟨[a], ?_, by simp, fun b hb => hb⟩, fun b hb => ?_, fun b h => ⟨hav b h, fun z => nax ?_⟩, fun b h => ?_⟩
    · have e : N.length - (V.ref a :: vr).length = N.length - (ds.length + 1) := by rw [List.length_cons, r.length]
      unfold L2.start startI
      rw [e]
      exact ⟨some (.ref a), _, [a], [], rfl, rfl, ⟨a, dx, [], [], rfl, rfl, hx, rfl, rfl⟩, repEnv_start r⟩
    · rw [List.mem_singleton.mp hb, hx]; exact fun z => by cases z
    · rw [← List.mem_singleton.mp z]; exact h
    · cases h; exact ⟨rfl, c, [], rfl⟩
  · have kp : ∀ {H' : Hp} {F' : List Addr}, Post H [a] H' F' → ∀ b o, H b = some o → b ≠ a → H' b = some o := fun p b o h n => p.keep b o h (by simpa using n)
    unfold runI at o
    cases q : m (startI N.length c ds) with
    | nx ρ' =>
      rw [q] at o
      intro σ' H' F' p S'
      unfold finI at o
      cases ρ' with
      | nil => exact False.elim o
      | cons s0 ρ' =>
        cases s0 with
        | no => exact False.elim o
        | v g => exact False.elim o
        | oo c' fs =>
          by_cases hc : c' = c ∧ fs.map (·.1) = flds c
          · have o : (match (if c' = c ∧ fs.map (·.1) = flds c then Res.ok (fs.map fun p => fdD p.2) else .bad) with
              | .ok fs => ∀ H', (∀ b o, H b = some o → b ≠ a → H' b = some o) → Rep ⟨K, T⟩ H' Av (.obj c fs) (.ref a) → Q .non H'
              | .err z => ∀ cls d H', (∀ b o, H b = some o → b ≠ a → H' b = some o) → ExcRep ⟨K, T⟩ H' z cls d → E cls d H'
              | .bad => False) := o
            rw [if_pos hc] at o
            obtain ⟨hc1, hc2⟩ := hc
            subst hc1
            obtain ⟨a', dx', vs', p', e1, h1, h2, mF, pF, nap, ndp⟩ := S'.self (i := 0) rfl
            obtain ⟨ea, _⟩ := S'.sf a rfl
            rw [ea] at e1
            cases e1
            have nAv : ∀ b ∈ F', ¬ Av b := fun b hb z => (S'.fb b z).2 hb
            have keys : vs'.map (·.1) = flds c' := by rw [h2.keys, hc2]
            have ev : vs' = (flds c').zip (vs'.map (·.2)) := by rw [← keys, zip_fst_snd]
            have wh : RepL ⟨K, T⟩ H' Av (fs.map fun p => fdD p.2) (vs'.map (·.2)) := RepFs.whole (fun b z => .inr z) h2 fun b hb => nAv b (pF b hb)
            refine o H' (kp p) ⟨a, dx', vs'.map (·.2), rfl, ⟨by rw [← ev]; exact h1, nAv a mF⟩, ?_, wh⟩
            rw [← keys, List.length_map, List.length_map]
          · have o : (match (if c' = c ∧ fs.map (·.1) = flds c then Res.ok (fs.map fun p => fdD p.2) else .bad) with
              | .ok fs => ∀ H', (∀ b o, H b = some o → b ≠ a → H' b = some o) → Rep ⟨K, T⟩ H' Av (.obj c fs) (.ref a) → Q .non H'
              | .err z => ∀ cls d H', (∀ b o, H b = some o → b ≠ a → H' b = some o) → ExcRep ⟨K, T⟩ H' z cls d → E cls d H'
              | .bad => False) := o
            rw [if_neg hc] at o
            exact False.elim o
    | rt d ρ' => rw [q] at o; exact False.elim o
    | er z ρ' =>
      rw [q] at o
      exact ⟨_, takes_of rfl rfl rfl rfl, fun cls d σ' H' F' p S' r => o cls d H' (kp p) r⟩
    | bad => rw [q] at o; exact False.elim o
end
end Cr
/-! Core, part 13: lists or tuples, whichever; the law's end. -/
namespace Cr
open PySem PySem.Spec PyProof.Rows L2
theorem pi_or {X : Cx} {tg e : Expr} {w1 w2 : TI} (h1 : PI X tg e w1) (h2 : PI X tg e w2) : PI X tg e (fun σ H R => w1 σ H R ∨ w2 σ H R) :=
  ⟨fun pins s σ H R I h => h.elim (h1.run pins s σ H R I) (h2.run pins s σ H R I)⟩
section
variable {T : CT} {Fb : Gh} {X : Cx} {e a b c o tg iter elt : Expr} {es ifs : List Expr} {me ma mb : Env → Res D} {pos p apos : Pos} {x : Str} {n : Nat} {vs : List Nat}
def seqOf : D → Res (List D)
  | .lst xs => .ok xs
  | .tup xs => .ok xs
  | _ => .bad
theorem mi_seq (h : ME T Fb X e me) : MI T Fb X tg e (mUnF seqOf me) := by
  obtain ⟨w1, p1, f1⟩ := (mi_list (tg := tg) h).ex
  obtain ⟨w2, p2, f2⟩ := (mi_tup (tg := tg) h).ex
  refine ⟨_, pi_or p1 p2, fun σ H F ρ R S o => ?_⟩
  unfold mUnF at o
  cases q : me ρ with
  | bad => rw [q] at o; exact False.elim o
  | err z => rw [q] at o; exact .inl (f1 σ H F ρ R S (by unfold mUnF; rw [q]; exact o))
  | ok d =>
    rw [q] at o
    cases d with
    | lst xs => exact .inl (f1 σ H F ρ R S (by unfold mUnF; rw [q]; exact o))
    | tup xs => exact .inr (f2 σ H F ρ R S (by unfold mUnF; rw [q]; exact o))
    | _ => exact False.elim o
theorem mib_seq (h : MB T Fb X e me) (ht : ME T Fb X e me) : MIb T Fb X tg e (mUnF seqOf me) := by
  obtain ⟨w1, p1, f1⟩ := (mib_list (tg := tg) h).ex
  obtain ⟨w2, p2, f2⟩ := (mi_tup (tg := tg) ht).b.ex
  refine ⟨_, pi_or p1 p2, fun σ H F ρ R S o => ?_⟩
  unfold mUnF at o
  cases q : me ρ with
  | bad => rw [q] at o; exact False.elim o
  | err z => rw [q] at o; exact .inl (f1 σ H F ρ R S (by unfold mUnF; rw [q]; exact o))
  | ok d =>
    rw [q] at o
    cases d with
    | lst xs => exact .inl (f1 σ H F ρ R S (by unfold mUnF; rw [q]; exact o))
    | tup xs => exact .inr (f2 σ H F ρ R S (by unfold mUnF; rw [q]; exact o))
    | _ => exact False.elim o
def gQ (gs : List D → Env → Option Env) : D → Env → Option Env := fun d ρ => match d with
  | .tup xs => gs xs ρ
  | .lst xs => gs xs ρ
  | _ => none
theorem mg_seq {j : Nat} {gs : List D → Env → Option Env} (hc : X.calm = true) (h : MGs T Fb X es vs gs) (hlen : ∀ ds ρ ρ', gs ds ρ = some ρ' → ds.length = n) (hn : (assignEach es X.env).length = n := by rfl) (hst : (assignEach es X.env).findIdx? (·.1) = none := by rfl) :
    MG T Fb X (.Tuple es j pos) vs (gQ gs) := by
  refine ⟨fun σ H F ρ ρ' d v Q S r eq hQ => ?_⟩
  cases d with
  | tup xs => exact (mg_tup hc h hlen hn hst).run σ H F ρ ρ' _ v Q S r eq hQ
  | lst xs => exact (mg_lst hc h hlen hn hst).run σ H F ρ ρ' _ v Q S r eq hQ
  | _ => cases eq
/-- a + b, lists -/
def addL : D → D → Res (List D)
  | .lst a, .lst b => if a.length + b.length ≤ sizeLine then .ok (a ++ b) else .bad
  | _, _ => .bad
def mBinF (g : D → D → Res (List D)) (ma mb : Env → Res D) : Env → Res (List D) := fun ρ => ma ρ >>= fun x => mb ρ >>= fun y => g x y
theorem mf_add (ha : MB T Fb X a ma) (hb : MB T Fb X b mb) : MF T Fb X (.BinOp a .Add b pos) (mBinF addL ma mb) := by
  refine ⟨fun σ H F ρ Q S o => (pe_op op_cat pe_tw pe_tw).tw ?_⟩
  refine ha.run σ H F ρ _ S (o.bind.imp fun x _ o1 v H1 s1 r1 => ?_)
  refine hb.run σ H1 F ρ _ (S.same s1) ((o1.same s1).bind.imp fun y _ o2 u H2 s2 r2 => ?_)
  have r1 := r1.same s2
  cases x <;> cases y <;> try exact False.elim o2
  obtain ⟨hz, f⟩ := o2.if
  obtain ⟨a, vs, rfl, ha, rv⟩ := r1
  obtain ⟨b, ws, rfl, hb, rw'⟩ := r2
  refine ⟨a, b, vs, ws, rfl, rfl, ha, hb, by rw [rv.length, rw'.length]; exact hz, fun p hp => ?_⟩
  have s := s1.trans s2
  exact f p _ _ (s.free hp) (s.trans (same_upd hp)) upd_same ((rv.append rw').new hp)
end
/-! ### the law's end -/
theorem law_sp {K : PySem.W.Frag} {T : CT} {m : List D → Res D} (h : ∀ ns : List Int, ns.length ≤ 63 → m [.scr ns] = .ok (.bl true)) (H : Hp) (a : Addr) (ns : List Int) (hl : ns.length ≤ 63) (hS : SqL K H a (ns.map V.int)) :
    spD K T 1 m [.ref a] H (fun v _ => v = .bl true) fun _ _ _ => False := by
  refine ⟨rfl, fun _ => False, [.scr ns], fun _ z => z.elim, ⟨_, [], rfl, ⟨a, rfl, ?_⟩, rfl⟩, ?_⟩
  · rcases hS with h | h
    · exact .inl ⟨h, fun z => z⟩
    · exact .inr h
  · rw [h ns hl]
    exact fun v H' _ r => r
end Cr
/-! Core, part 14: what the head says. -/
namespace Cr
open PySem PySem.Spec PyProof.Rows L2
abbrev Fg := PySem.W.Frag
def obsX (fa : List He.Fa) (fn : List He.DefD) (xs : List (Fg → Bool)) (K : Fg) : He.AlD := (((fa.all fun f => f.ok K) && fn.all fun d => d.ok K) && (xs.all fun f => f K), fn.map fun d => He.fnW K d.at_)
def SaysX (fa : List He.Fa) (fn : List He.DefD) (xs : List (Fg → Bool)) (K : Fg) : Prop := obsX fa fn xs K = He.valD fn
def obsXG (n : Nat) (fa : List He.Fa) (fn : List He.DefD) (xs : List (Fg → Bool)) (g : Addr → Option Obj) : He.AlD := obsX fa fn xs (He.frG g (He.asD g n))
def hookX (n : Nat) (fa : List He.Fa) (fn : List He.DefD) (xs : List (Fg → Bool)) : PySem.W.Hook where
  α := He.AlD
  obs := fun s => obsXG n fa fn xs s.heap.get?
  val := fun _ => He.valD fn
  says := fun _ h => ∃ K : PySem.W.Frag, K.In h ∧ SaysX fa fn xs K
  of := fun _ _ e => ⟨_, He.frG_in, e⟩
  keeps := fun _ _ _ ⟨K, hK, c⟩ k => ⟨K, PySem.W.Frag.In.keeps hK k, c⟩
theorem obsXG_eq {n : Nat} {fa : List He.Fa} {fn : List He.DefD} {xs : List (Fg → Bool)} {g : Addr → Option Obj} {s : Shared} (h : ∀ a, g a = s.heap.get? a) : obsXG n fa fn xs g = (hookX n fa fn xs).obs s := by
  have e : g = s.heap.get? := funext h
  rw [e] <;> rfl
section
variable {fa : List He.Fa} {fn : List He.DefD} {xs : List (Fg → Bool)} {K : Fg}
theorem SaysX.d (c : SaysX fa fn xs K) : He.SaysD fa fn K := by
  have c1 := (He.ba (show (((fa.all fun f => f.ok K) && fn.all fun d => d.ok K) && (xs.all fun f => f K)) = true from congrArg (fun z : He.AlD => z.1) c)).1
  have c2 : fn.map (fun d => He.fnW K d.at_) = fn.map He.DefD.val := congrArg (fun z : He.AlD => z.2) c
  show (((fa.all fun f => f.ok K) && fn.all fun d => d.ok K, fn.map fun d => He.fnW K d.at_) : He.AlD) = (true, fn.map He.DefD.val)
  rw [c1, c2]
theorem SaysX.x (c : SaysX fa fn xs K) (i : Nat) {f : Fg → Bool} (h : xs[i]? = some f := by rfl) : f K = true := by
  have c1 := (He.ba (show (((fa.all fun f => f.ok K) && fn.all fun d => d.ok K) && (xs.all fun f => f K)) = true from congrArg (fun z : He.AlD => z.1) c)).2
  exact List.all_eq_true.mp c1 f (List.mem_of_getElem? h)
end
/-- what a law's walk leans on -/
structure Wt (fa : List He.Fa) (fn : List He.DefD) (xs : List (Fg → Bool)) (K : Fg) (mg : Str → Option Value) : Prop where
  ex : ∃ h : Heap, K.In h ∧ h.Ns mainGlobals mg
  c : SaysX fa fn xs K
section
variable {fa : List He.Fa} {fn : List He.DefD} {xs : List (Fg → Bool)} {K : Fg} {mg : Str → Option Value}
theorem Wt.free (A : Wt fa fn xs K mg) (i : Nat) {x : Str} (h : fa[i]? = some (.free x) := by rfl) : mg x = none := by
  obtain ⟨hp, X, G⟩ := A.ex
  exact He.free_ok X G (A.c.d.fact i h)
theorem Wt.glo (A : Wt fa fn xs K mg) (i : Nat) {x : Str} (h : fa[i]? = some (.glo x) := by rfl) : mg x = some (.ref (He.ga K x)) := by
  obtain ⟨hp, X, G⟩ := A.ex
  exact He.glo_ok X G (A.c.d.fact i h)
theorem Wt.cls (A : Wt fa fn xs K mg) (i : Nat) {x : Str} (h : fa[i]? = some (.cls x) := by rfl) : Cls K (He.ga K x) := He.cls_ok (A.c.d.fact i h)
theorem Wt.noat (A : Wt fa fn xs K mg) (i : Nat) {x f : Str} (h : fa[i]? = some (.noat x f) := by rfl) : NoAttr K (He.ga K x) f := He.noat_ok (A.c.d.fact i h)
theorem Wt.meth (A : Wt fa fn xs K mg) (i : Nat) {x f : Str} (h : fa[i]? = some (.meth x f) := by rfl) : Meth K (He.ga K x) f (He.ma K (He.ga K x) f) := He.meth_ok (A.c.d.fact i h)
theorem Wt.mkr (A : Wt fa fn xs K mg) (i : Nat) {x : Str} (h : fa[i]? = some (.mkr x) := by rfl) : Mk K (He.ga K x) (He.ma K (He.ga K x) "__init__") := He.mkr_ok (A.c.d.fact i h)
theorem Wt.exc (A : Wt fa fn xs K mg) (i j : Nat) {T : CT} {c : Nat} {x : Str} (h : fa[i]? = some (.exc x) := by rfl) (h2 : fa[j]? = some (.glo x) := by rfl) (e : T.addr c = He.ga K x := by rfl) : ExAt K mg T c x := by
  obtain ⟨c1, c2, c3, c4⟩ := He.exc_ok (A.c.d.fact i h)
  exact ⟨by rw [e]; exact A.glo j h2, by rw [e]; exact c1, by rw [e]; exact c2, by rw [e]; exact c3, by rw [e]; exact c4⟩
theorem Wt.exm (A : Wt fa fn xs K mg) (i : Nat) {x y : Str} {b : Bool} (h : fa[i]? = some (.exm x y b) := by rfl) : PySem.W.exmOne K (.ref (He.ga K x)) (.ref (He.ga K y)) = some b := He.exm_ok (A.c.d.fact i h)
theorem Wt.int (A : Wt fa fn xs K mg) {T : CT} (i : Nat) {x : Str} {n : Int} (h : fa[i]? = some (.int x n) := by rfl) : GloD K T mg x (.int n) := by
  obtain ⟨hp, X, G⟩ := A.ex
  obtain ⟨t, e⟩ := He.int_ok X G (A.c.d.fact i h)
  exact ⟨_, .int n, e, ⟨t, rfl⟩, fun _ _ => rfl⟩
theorem Wt.str (A : Wt fa fn xs K mg) {T : CT} (i : Nat) {x z : Str} (h : fa[i]? = some (.str x z) := by rfl) : GloD K T mg x (.str z) := by
  obtain ⟨hp, X, G⟩ := A.ex
  obtain ⟨t, e⟩ := He.str_ok X G (A.c.d.fact i h)
  exact ⟨_, .str z, e, ⟨t, rfl⟩, fun _ _ => rfl⟩
theorem KTup.of {K : Fg} {a : Addr} {vs : List V} (h : ∀ H, SqT K H a vs) : KTup K a vs := by
  rcases h (fun _ => none) with h | h
  · rcases h with h | ⟨o, h⟩ <;> cases h
  · exact h
/-- a tuple of flat things -/
theorem Wt.tup (A : Wt fa fn xs K mg) {T : CT} (i j : Nat) {x : Str} {ds : List D} {dv : List He.Dv} (h : xs[i]? = some (fun K => He.tupB K x dv) := by rfl) (h2 : fa[j]? = some (.glo x) := by rfl) (hr : ∀ H Av, RepL ⟨K, T⟩ H Av ds (dv.map (He.Dv.v K))) : GloD K T mg x (.tup ds) :=
  ⟨_, .ref (He.ga K x), A.glo j h2, rfl, fun H Av => ⟨_, _, rfl, .inr (KTup.of fun H => He.tupB_ok (A.c.x i h) H), hr H Av⟩⟩
theorem Wt.def_ (A : Wt fa fn xs K mg) (i : Nat) {d : He.DefD} (h : fn[i]? = some d := by rfl) : ∃ fd, FunD K d.name d.qual d.params d.body d.scope (d.dvs K) (d.kws K) (He.fAd K d.at_) fd := A.c.d.def_ i h
end
/-- how arguments bind, no defaults -/
theorem binds_n {K : Fg} {x qual : Str} {params : Arguments} {body : List Stmt} {scope : Scope} {kws : List (Str × V)} {f : Addr} {fd : FuncData} {ps : List Str} (F : FunD K x qual params body scope [] kws f fd)
    (h : ∀ (kV doc pm : Value) (an : Option Addr) (cdv ct : Value) (us : List Value), us.length = ps.length → bindArgs (PySem.W.fnOf x qual params body scope .none kV doc pm an cdv ct) ⟨us, []⟩ = pure (ps.zip us)) : Binds K fd ps [] := F.bindsN h
end Cr
/-! Core, part 15: the law's promise, with no exception. -/
namespace Cr
open PySem PySem.Spec PyProof.Rows L2
section
variable {P : Program} {w : World} {K : PySem.W.Frag} {mg : Str → Option Value} {base : Heap} {k : Nat} {f : Addr} {fd : FuncData} {ps : List Str} {sp : Sp}
abbrev CXN : CXT := fun _ _ _ _ _ _ => False
def noE (sp : Sp) : Sp := fun vs H Q _ => sp vs H Q fun _ _ _ => False
theorem fn_no (F : FnOk P w K mg base (L2.CX P w) k f fd ps sp) : FnOk P w K mg base CXN k f fd ps (noE sp) := by
  refine ⟨fun vs H Q E h => F.len vs H Q _ h, fun A outer s H args us vs Q E hr he hb hv hs => codeAny_mono (F.run A outer s H args us vs Q _ hr he hb hv hs) fun r s' z => ?_⟩
  cases r with
  | ok x => cases x <;> first | exact z | exact False.elim z
  | error e =>
    obtain ⟨_, _, _, _, _, _, _, _, _, _, _, _, z⟩ := z
    exact False.elim z
end
end Cr
/-! Core, part 16: is with a bool; bit_length. -/
namespace Cr
open PySem PySem.Spec PyProof.Rows L2
def isBlD : D → D → Res D
  | .bl a, .bl b => .ok (.bl (decide (a = b)))
  | _, _ => .bad
def notBlD : D → D → Res D
  | .bl a, .bl b => .ok (.bl (!decide (a = b)))
  | _, _ => .bad
section
variable {T : CT} {Fb : Gh} {X : Cx} {e a : Expr} {ma : Env → Res D} {pos p : Pos}
theorem om_isb : OpM T X (compareOp .Is) isBlD := by
  refine ⟨_, op_is_bl, fun σ H Av dx dy x y Q hav rx ry o => ?_⟩
  cases dx <;> cases dy <;> try exact False.elim o
  rename_i a b
  have rx : x = V.bl a := rx
  have ry : y = V.bl b := ry
  exact ⟨a, b, rx, ry, o _ _ (Same.refl H) rfl⟩
theorem om_isnotb : OpM T X (compareOp .IsNot) notBlD := by
  refine ⟨_, op_isnot_bl, fun σ H Av dx dy x y Q hav rx ry o => ?_⟩
  cases dx <;> cases dy <;> try exact False.elim o
  rename_i a b
  have rx : x = V.bl a := rx
  have ry : y = V.bl b := ry
  exact ⟨a, b, rx, ry, o _ _ (Same.refl H) rfl⟩
def bitsD : D → Res D
  | .int i => .ok (.int (Builtin.Int.intBits i : Nat))
  | _ => .bad
theorem me_bits {apos : Pos} (ha : MB T Fb X a ma) (hbase : attributeBase a "bit_length" X.env (eval a X.env) = eval a X.env := by rfl) (hline : (apos.endLine == pos.line) = true := by rfl) : ME T Fb X (.Call (.Attribute a "bit_length" apos) [] [] pos) (mUn bitsD ma) := by
  refine ⟨fun σ H F ρ Q S o => (pe_bits pe_tw hbase hline).tw ?_⟩
  refine ha.run σ H F ρ _ S (o.bind.imp fun d _ o1 v H1 s r => ?_)
  cases d with
  | int i => exact ⟨i, r, o1 _ _ s rfl⟩
  | _ => exact False.elim o1
end
end Cr
/-! Core, part 17: max and min of a tuple. -/
namespace Cr
open PySem L2
theorem best_tup {gt : Bool} {prog : Program} {w : World} {A : Around} {E : Value → Shared → Prop} {s : Shared} {t : Addr} {its : List Value} {ns : List Int} {Q : Value → Shared → Prop}
    (hh : A.handled = none) (ht : PyProof.Rows.IsTup s.heap t its.toArray) (hi : PyProof.Rows.IntsAre its ns) (hne : 0 < ns.length)
    (h : ∀ (h' : Heap) (tk : Nat) (M : Int) (t' : Tok), (∀ (b : Addr) (o : Obj), s.heap.get? b = some o → h'.get? b = some o) → M ∈ ns → (∀ a ∈ ns, if gt = true then a ≤ M else M ≤ a) →
      Q (Value.int M t') { heap := h', gens := s.gens, drawn := s.drawn, toks := tk, os := s.os }) :
    wpAny (model prog w) A (call (Value.builtin (if gt = true then "max" else "min")) [Value.ref t]) Q E s := by
  obtain ⟨xs, e⟩ := AllInts.items (PyProof.Rows.IntsAre.allInts hi)
  have hn : numsOf (intItems xs).toList = ns := by rw [← e]; exact PyProof.Rows.IntsAre.numsOf hi
  rw [nums_intItems] at hn
  subst hn
  rw [e] at ht
  have hsz : 0 < xs.size := by rw [List.length_map, Array.length_toList] at hne; exact hne
  have hlt : t < s.heap.objs.size := ht.lt
  have hsize : (intItems xs).size = xs.size := by unfold intItems; exact Array.size_map
  have fin : ∀ (bt : Nat → Nat → Bool), (argBest bt (xs.size - 1) ≤ xs.size - 1) → (∀ j, j ≤ xs.size - 1 → if gt = true then numAt xs j ≤ numAt xs (argBest bt (xs.size - 1)) else numAt xs (argBest bt (xs.size - 1)) ≤ numAt xs j) → ∀ (v : Value) (h' : Heap) (tk : Nat), (intItems xs)[argBest bt ((intItems xs).size - 1)]? = some v →
      (∀ (b : Addr) (o : Obj), ¬b ∈ [s.heap.objs.size] → (s.heap.push { cls := Value.type "tuple_iterator", data := Data.fields #[Value.ref t, Value.int 0 0] }).get? b = some o → h'.get? b = some o) →
      Q v { heap := h', gens := s.gens, drawn := s.drawn, toks := tk, os := s.os } := by
    intro bt h1 h2 v h' tk hv hk
    rw [hsize] at hv
    obtain ⟨tv, rfl⟩ := intItems_at hv
    refine h h' tk _ tv (fun b o hb => ?_) ?_ ?_
    · refine hk b o ?_ (Heap.get?_push_of_some _ hb)
      intro hm
      rw [List.mem_singleton] at hm
      have hl := Heap.lt_size hb
      rw [hm] at hl
      exact Nat.lt_irrefl _ hl
    · rw [numAt_eq]
      refine getD_mem ?_
      rw [List.length_map, Array.length_toList]
      omega
    · intro a ha
      obtain ⟨j, hj, rfl⟩ := mem_getD ha
      rw [List.length_map, Array.length_toList] at hj
      rw [← numAt_eq]
      exact h2 j (by omega)
  have St0 : (s.heap.push { cls := Value.type "tuple_iterator", data := Data.fields #[Value.ref t, Value.int 0 0] }).IsTupleIter s.heap.objs.size t 0 ∧ (s.heap.push { cls := Value.type "tuple_iterator", data := Data.fields #[Value.ref t, Value.int 0 0] }).IsTuple t (intItems xs) :=
    ⟨⟨_, Heap.get?_push_size _ rfl, rfl, rfl⟩, ht.push _⟩
  have hfp : ∀ b ∈ [s.heap.objs.size, t], b < (s.heap.push { cls := Value.type "tuple_iterator", data := Data.fields #[Value.ref t, Value.int 0 0] }).objs.size := by
    intro b hb
    have : (s.heap.push { cls := Value.type "tuple_iterator", data := Data.fields #[Value.ref t, Value.int 0 0] }).objs.size = s.heap.objs.size + 1 := by
      unfold Heap.push; exact Array.size_push _
    rw [this]
    rcases List.mem_cons.mp hb with rfl | hb
    · exact Nat.lt_succ_self _
    · rw [List.mem_singleton.mp hb]; exact Nat.lt_succ_of_lt hlt
  cases gt with
  | true =>
    obtain ⟨h1, h2⟩ := argBest_gt (numAt xs) (xs.size - 1)
    exact call_max_walk (PyProof.Rows.iter_tuple ht ⟨s.heap.objs.size, [s.heap.objs.size, t], [s.heap.objs.size], (intItems xs).size, fun i v => (intItems xs)[i]? = some v, fun i h => h.IsTupleIter s.heap.objs.size t i ∧ h.IsTuple t (intItems xs), fun i j => decide (numAt xs i > numAt xs j), rfl,
      Walks.tuple (A := A.in1) hh s.heap.objs.size t (Nat.ne_of_lt hlt) (intItems xs), St0, hfp, by rw [hsize]; exact hsz, CmpOf.ints_gt (numAt xs) fun _ _ => intItems_at, fin _ h1 h2⟩)
  | false =>
    obtain ⟨h1, h2⟩ := argBest_lt (numAt xs) (xs.size - 1)
    exact call_min_walk (PyProof.Rows.iter_tuple ht ⟨s.heap.objs.size, [s.heap.objs.size, t], [s.heap.objs.size], (intItems xs).size, fun i v => (intItems xs)[i]? = some v, fun i h => h.IsTupleIter s.heap.objs.size t i ∧ h.IsTuple t (intItems xs), fun i j => decide (numAt xs i < numAt xs j), rfl,
      Walks.tuple (A := A.in1) hh s.heap.objs.size t (Nat.ne_of_lt hlt) (intItems xs), St0, hfp, by rw [hsize]; exact hsz, CmpOf.ints_lt (numAt xs) fun _ _ => intItems_at, fin _ h1 h2⟩)
section
variable {T : CT} {X : Cx}
def maxD2 : List D → Res D
  | [.tup xs] => opt (intsOf xs) >>= fun ns => if 0 < ns.length then .ok (.int (listMax ns)) else .bad
  | ds => maxD ds
def minD2 : List D → Res D
  | [.tup xs] => opt (intsOf xs) >>= fun ns => if 0 < ns.length then .ok (.int (listMin ns)) else .bad
  | ds => minD ds
def rBest (gt : Bool) (K : W.Frag) : List V → Hp → VK → Prop := fun vs H Q => ∃ a ns, vs = [V.ref a] ∧ (SqL K H a (ns.map V.int) ∨ SqT K H a (ns.map V.int)) ∧ 0 < ns.length ∧ Q (V.int (if gt = true then listMax ns else listMin ns)) H
theorem cr_best (gt : Bool) (hc : X.calm = true) : CallR X (.builtin (if gt = true then "max" else "min")) (rBest gt X.K) := by
  intro pins s σ H vs us Q I rv h
  obtain ⟨a, ns, rfl, hs, hne, q⟩ := h
  cases Vals.ref1 rv
  rcases hs with hs | hs
  · cases gt with
    | true => exact cr_max hc pins s σ H _ _ Q I rv ⟨a, ns, rfl, hs, hne, fun m hm hy => by rw [listMax_eq hm hy]; exact q⟩
    | false => exact cr_min hc pins s σ H _ _ Q I rv ⟨a, ns, rfl, hs, hne, fun m hm hy => by rw [listMin_eq hm hy]; exact q⟩
  · obtain ⟨its, hv, hl, _⟩ := Inv.tuple I hs
    refine best_tup (I.ok.hd hc) hl (Vals.ints hv) hne fun h' tk m t' hk h1 h2 => ⟨V.int m, H, Inv.kept I hk, ⟨t', rfl⟩, ?_⟩
    cases gt with
    | true => rw [listMax_eq h1 h2]; exact q
    | false => rw [listMin_eq h1 h2]; exact q
theorem cm_maxD2 (hc : X.calm = true) : CallM T X (.builtin "max") maxD2 := by
  refine ⟨_, cr_best true hc, fun σ H Av ds vs Q hav r o => ?_⟩
  match ds, o with
  | [.tup xs], o =>
    obtain ⟨ns, e, f⟩ := o.bind.opt
    obtain ⟨hn, f⟩ := Out.if f
    obtain ⟨v, rfl, a, ws, rfl, h1, h2⟩ := paired1 r
    rw [ints_rep h2 e] at h1
    exact ⟨a, ns, rfl, .inr (tup_sq h1), hn, f _ _ (Same.refl H) rfl⟩
  | [.lst xs], o =>
    have o : Out X T σ H (opt (intsOf xs) >>= fun ns => if 0 < ns.length then Res.ok (D.int (listMax ns)) else .bad) _ := o
    obtain ⟨ns, e, f⟩ := o.bind.opt
    obtain ⟨hn, f⟩ := Out.if f
    obtain ⟨v, rfl, a, ws, rfl, h1, h2⟩ := paired1 r
    rw [ints_rep h2 e] at h1
    exact ⟨a, ns, rfl, .inl (SqL.of h1), hn, f _ _ (Same.refl H) rfl⟩
theorem cm_minD2 (hc : X.calm = true) : CallM T X (.builtin "min") minD2 := by
  refine ⟨_, cr_best false hc, fun σ H Av ds vs Q hav r o => ?_⟩
  match ds, o with
  | [.tup xs], o =>
    obtain ⟨ns, e, f⟩ := o.bind.opt
    obtain ⟨hn, f⟩ := Out.if f
    obtain ⟨v, rfl, a, ws, rfl, h1, h2⟩ := paired1 r
    rw [ints_rep h2 e] at h1
    exact ⟨a, ns, rfl, .inr (tup_sq h1), hn, f _ _ (Same.refl H) rfl⟩
  | [.lst xs], o =>
    have o : Out X T σ H (opt (intsOf xs) >>= fun ns => if 0 < ns.length then Res.ok (D.int (listMin ns)) else .bad) _ := o
    obtain ⟨ns, e, f⟩ := o.bind.opt
    obtain ⟨hn, f⟩ := Out.if f
    obtain ⟨v, rfl, a, ws, rfl, h1, h2⟩ := paired1 r
    rw [ints_rep h2 e] at h1
    exact ⟨a, ns, rfl, .inl (SqL.of h1), hn, f _ _ (Same.refl H) rfl⟩
end
end Cr
/-! Core, part 18: the list that a def hands back, and which is new. -/
namespace Cr
open PySem L2
/-! no list within -/
mutual
def noLst : D → Bool
  | .lst _ => false
  | .scr _ => false
  | .tup ds => noLsts ds
  | .obj _ ds => noLsts ds
  | _ => true
def noLsts : List D → Bool
  | [] => true
  | d :: ds => noLst d && noLsts ds
end
/-- the data is no reference -/
def isAtom : D → Bool
  | .non => true
  | .bl _ => true
  | .int _ => true
  | .str _ => true
  | _ => false
/-! each list within has no references -/
mutual
def flatL : D → Bool
  | .lst ds => ds.all isAtom
  | .tup ds => flatLs ds
  | .obj _ ds => flatLs ds
  | _ => true
def flatLs : List D → Bool
  | [] => true
  | d :: ds => flatL d && flatLs ds
end
/-- a list that can't be one of the arguments' lists -/
def ownD (ds : List D) : D → Res (List D)
  | .lst xs => if xs.any (fun d => !isAtom d) && noLsts xs && flatLs ds then .ok xs else .bad
  | _ => .bad
/-- the places of lists with references -/
def RefL (H : Hp) (a : Addr) : Prop := ∃ ws b, H a = some (.lst ws) ∧ V.ref b ∈ ws
theorem atoms_noref {G : Gx} {H : Hp} {Av : Addr → Prop} : ∀ {ds : List D} {vs : List V}, RepL G H Av ds vs → ds.all isAtom = true → ∀ b, ¬ V.ref b ∈ vs
  | [], vs, r, _, b, h => by
    have r : vs = [] := r
    subst r
    cases h
  | d :: ds, vs, r, q, b, h => by
    obtain ⟨v, vr, rfl, r1, r2⟩ := r
    rw [List.all_cons, Bool.and_eq_true] at q
    rcases List.mem_cons.mp h with e | h
    · cases d with
      | non => have r1 : v = .non := r1; rw [r1] at e; cases e
      | bl x => have r1 : v = .bl x := r1; rw [r1] at e; cases e
      | int x => have r1 : v = .int x := r1; rw [r1] at e; cases e
      | str x => have r1 : v = .str x := r1; rw [r1] at e; cases e
      | tup x => cases q.1
      | lst x => cases q.1
      | obj c x => cases q.1
      | scr x => cases q.1
    · exact atoms_noref r2 q.2 b h
theorem some_ref {G : Gx} {H : Hp} {Av : Addr → Prop} : ∀ {ds : List D} {vs : List V}, RepL G H Av ds vs → ds.any (fun d => !isAtom d) = true → ∃ b, V.ref b ∈ vs
  | [], vs, r, q => by cases q
  | d :: ds, vs, r, q => by
    obtain ⟨v, vr, rfl, r1, r2⟩ := r
    rw [List.any_cons, Bool.or_eq_true] at q
    rcases q with q | q
    · cases d with
      | non => cases q
      | bl x => cases q
      | int x => cases q
      | str x => cases q
      | tup x => obtain ⟨a, _, e, _⟩ := r1; exact ⟨a, by rw [e]; exact List.mem_cons_self⟩
      | lst x => obtain ⟨a, _, e, _⟩ := r1; exact ⟨a, by rw [e]; exact List.mem_cons_self⟩
      | obj c x => obtain ⟨a, _, _, e, _⟩ := r1; exact ⟨a, by rw [e]; exact List.mem_cons_self⟩
      | scr x => obtain ⟨a, e, _⟩ := r1; exact ⟨a, by rw [e]; exact List.mem_cons_self⟩
    · obtain ⟨b, h⟩ := some_ref r2 q
      exact ⟨b, List.mem_cons_of_mem _ h⟩
mutual
theorem rep_flat {G : Gx} {H : Hp} {Av : Addr → Prop} : ∀ (d : D) {v : V}, Rep G H Av d v → flatL d = true → Rep G H (fun a => Av a ∨ RefL H a) d v
  | .non, v, h, _ => h
  | .bl b, v, h, _ => h
  | .int i, v, h, _ => h
  | .str x, v, h, _ => h
  | .tup ds, v, h, q => by
    obtain ⟨a, vs, e, h1, h2⟩ := h
    refine ⟨a, vs, e, ?_, repL_flat ds h2 q⟩
    rcases h1 with ⟨h1, n⟩ | h1
    · exact .inl ⟨h1, fun z => z.elim n fun ⟨ws, b, hz, _⟩ => by rw [h1] at hz; cases hz⟩
    · exact .inr h1
  | .lst ds, v, h, q => by
    obtain ⟨a, vs, e, ⟨h1, n⟩, h2⟩ := h
    refine ⟨a, vs, e, ⟨h1, fun z => z.elim n fun ⟨ws, b, hz, hb⟩ => ?_⟩, repL_flat ds h2 ?_⟩
    · rw [h1] at hz
      cases hz
      exact atoms_noref h2 q b hb
    · exact flat_atoms ds q
  | .obj c ds, v, h, q => by
    obtain ⟨a, dx, vs, e, ⟨h1, n⟩, hl, h2⟩ := h
    exact ⟨a, dx, vs, e, ⟨h1, fun z => z.elim n fun ⟨ws, b, hz, hb⟩ => by rw [h1] at hz; cases hz⟩, hl, repL_flat ds h2 q⟩
  | .scr ns, v, h, q => by
    obtain ⟨a, e, h1⟩ := h
    refine ⟨a, e, ?_⟩
    rcases h1 with ⟨h1, n⟩ | h1
    · refine .inl ⟨h1, fun z => z.elim n fun ⟨ws, b, hz, hb⟩ => ?_⟩
      rcases h1 with h1 | ⟨o, h1⟩
      · rw [h1] at hz
        cases hz
        obtain ⟨i, _, e⟩ := List.mem_map.mp hb
        cases e
      · rw [h1] at hz; cases hz
    · exact .inr h1
theorem repL_flat {G : Gx} {H : Hp} {Av : Addr → Prop} : ∀ (ds : List D) {vs : List V}, RepL G H Av ds vs → flatLs ds = true → RepL G H (fun a => Av a ∨ RefL H a) ds vs
  | [], vs, h, _ => h
  | d :: ds, vs, h, q => by
    obtain ⟨v, vr, e, h1, h2⟩ := h
    unfold flatLs at q
    rw [Bool.and_eq_true] at q
    exact ⟨v, vr, e, rep_flat d h1 q.1, repL_flat ds h2 q.2⟩
theorem flat_atoms : ∀ (ds : List D), ds.all isAtom = true → flatLs ds = true
  | [], _ => rfl
  | d :: ds, q => by
    rw [List.all_cons, Bool.and_eq_true] at q
    unfold flatLs
    rw [Bool.and_eq_true]
    refine ⟨?_, flat_atoms ds q.2⟩
    cases d <;> first | rfl | cases q.1
end
/-! what has no list within stays clear of a place of a list -/
mutual
theorem rep_clear {G : Gx} {H : Hp} {Av : Addr → Prop} {p : Addr} {ws : List V} (hp : H p = some (.lst ws)) : ∀ (d : D) {v : V}, Rep G H Av d v → noLst d = true → Rep G H (fun a => a = p ∨ Av a) d v
  | .non, v, h, _ => h
  | .bl b, v, h, _ => h
  | .int i, v, h, _ => h
  | .str x, v, h, _ => h
  | .tup ds, v, h, q => by
    obtain ⟨a, vs, e, h1, h2⟩ := h
    refine ⟨a, vs, e, ?_, repL_clear hp ds h2 q⟩
    rcases h1 with ⟨h1, n⟩ | h1
    · exact .inl ⟨h1, fun z => z.elim (fun e => by rw [e, hp] at h1; cases h1) n⟩
    · exact .inr h1
  | .obj c ds, v, h, q => by
    obtain ⟨a, dx, vs, e, ⟨h1, n⟩, hl, h2⟩ := h
    exact ⟨a, dx, vs, e, ⟨h1, fun z => z.elim (fun e => by rw [e, hp] at h1; cases h1) n⟩, hl, repL_clear hp ds h2 q⟩
  | .lst ds, v, h, q => by cases q
  | .scr ns, v, h, q => by cases q
theorem repL_clear {G : Gx} {H : Hp} {Av : Addr → Prop} {p : Addr} {ws : List V} (hp : H p = some (.lst ws)) : ∀ (ds : List D) {vs : List V}, RepL G H Av ds vs → noLsts ds = true → RepL G H (fun a => a = p ∨ Av a) ds vs
  | [], vs, h, _ => h
  | d :: ds, vs, h, q => by
    obtain ⟨v, vr, e, h1, h2⟩ := h
    unfold noLsts at q
    rw [Bool.and_eq_true] at q
    exact ⟨v, vr, e, rep_clear hp d h1 q.1, repL_clear hp ds h2 q.2⟩
end
/-- a call of a def whose list is new -/
def mArgO (mf : List D → Res D) (ms : Env → Res (List D)) : Env → Res (List D) := mArg (fun ds => mf ds >>= ownD ds) ms
section
variable {T : CT} {Fb : Gh} {X : Cx} {e : Expr} {es : List Expr} {pos p : Pos} {x : Str} {k n : Nat}
/-- what a call asks, with places of one's own choice kept clear -/
theorem spD_ofA {σ : L2.St} {H : Hp} {Av : Addr → Prop} {ds : List D} {vs : List V} {Q : VK} {mf : List D → Res D} (hl : vs.length = n) (hav : ∀ a, Av a → H a ≠ none) (r : RepL (gx X T) H Av ds vs)
    (o : Out X T σ H (mf ds) fun d => ∀ v H', Same H H' → Rep (gx X T) H' Av d v → Q v H') : ∃ E : XK, PassesAt (L2.CX X.prog X.w) X σ E ∧ spD X.K T n mf vs H Q E := by
  cases q : mf ds with
  | ok d =>
    rw [q] at o
    exact ⟨E0, fun _ _ _ _ _ _ h => by obtain ⟨_, _, _, _, _, _, _, _, _, _, _, _, z⟩ := h; exact z.elim, hl, Av, ds, hav, r, by rw [q]; exact o⟩
  | err x =>
    rw [q] at o
    obtain ⟨W, tk, f⟩ := o
    exact ⟨WE W σ, passAt tk σ, hl, Av, ds, hav, r, by rw [q]; exact f⟩
  | bad => rw [q] at o; exact False.elim o
theorem mf_call {mf : List D → Res D} {ms : Env → Res (List D)} (F : FnAt X.prog X.w X.K X.mg X.base T k x (es.length + 1) mf) (hr : Room k X.A) (ha : ML T Fb X (e :: es) ms) (hl : ∀ ρ ds, ms ρ = .ok ds → ds.length = es.length + 1) (hg : Gl X x := by rfl) (hdb : (x == ("__debug__" : Str)) = false := by decide)
    (he : starEach (e :: es) X.env = (false, eval e X.env) :: starEach es X.env := by rfl) (hpl : (backTo pos (starEach es X.env)).any (·.1) = false := by rfl) : MF T Fb X (.Call (.Name x p) (e :: es) [] pos) (mArgO mf ms) := by
  obtain ⟨f, fd, ps, F, hm, hk, hb⟩ := F.ex
  refine ⟨fun σ H Fo ρ Q S o pins s I => ?_⟩
  refine wpAny_Call_Name_kw (ld_glob I hg hm ?_ hdb)
  have args : TWa X (e :: es) σ H fun vs H1 => ∃ E : XK, PassesAt (L2.CX X.prog X.w) X σ E ∧ spD X.K T (es.length + 1) mf vs H1 Q E := by
    refine ha.run σ H Fo ρ _ S (o.bind.imp fun ds e1 o1 vs H1 s1 r1 => ?_)
    have hlen : vs.length = es.length + 1 := by rw [r1.length]; exact hl _ _ e1
    have o1 := o1.same s1
    cases q : mf ds with
    | bad => rw [q] at o1; exact False.elim o1
    | err z =>
      rw [q] at o1
      exact spD_of hlen (S.same s1).av r1 (by rw [q]; exact o1)
    | ok d =>
      rw [q] at o1
      cases d with
      | lst xs =>
        have o1 : Out X T σ H1 (if (xs.any (fun d => !isAtom d) && noLsts xs && flatLs ds) = true then Res.ok xs else .bad) _ := o1
        by_cases hc : (xs.any (fun d => !isAtom d) && noLsts xs && flatLs ds) = true
        · rw [if_pos hc] at o1
          rw [Bool.and_eq_true, Bool.and_eq_true] at hc
          have hav := (S.same s1).av
          refine spD_ofA (Av := fun a => avo Fb Fo a ∨ RefL H1 a) hlen (fun a h => h.elim (hav a) fun ⟨ws, b, hz, _⟩ => by rw [hz]; simp) (repL_flat ds r1 hc.2) ?_
          rw [q]
          intro v H2 s2 r2
          obtain ⟨a, ws, rfl, ⟨h1, hn⟩, h2⟩ := r2
          obtain ⟨b, hb⟩ := some_ref h2 hc.1.1
          have hf : H1 a = none := by
            cases q1 : H1 a with
            | none => rfl
            | some u =>
              have := s2 a u q1
              rw [this] at h1
              cases h1
              exact absurd (.inr ⟨ws, b, q1, hb⟩) hn
          have hf0 : H a = none := by
            cases q1 : H a with
            | none => rfl
            | some u => rw [s1 a u q1] at hf; cases hf
          exact o1 a ws H2 hf0 (s1.trans s2) h1 (RepL.mono (kept_sub fun z hz => hz.elim .inl fun y => .inr (.inl y)) xs (repL_clear h1 xs h2 hc.1.2))
        · rw [if_neg hc] at o1; exact False.elim o1
      | non => exact False.elim o1
      | bl z => exact False.elim o1
      | int z => exact False.elim o1
      | str z => exact False.elim o1
      | tup z => exact False.elim o1
      | obj c z => exact False.elim o1
      | scr z => exact False.elim o1
  refine PySem.W.callWith_K (h₀ := X.base) I.ok.mod.kin hk (thn (args pos pins s I) fun us s1 ⟨vs, H1, I1, r, E, hx, q⟩ => ⟨I1.kIn, ?_⟩) he hpl
  exact run_fnS (E := fun _ => E) F hr hb hx I1 r q
end
end Cr
/-! plain lemmas over the mirrors' words -/
namespace Cr
open PySem L2
theorem mulD_r (a b : Int) (h : -18446744073709551616 < b ∧ b < 18446744073709551616) : mulD (.int a) (.int b) = .ok (.int (a * b)) := by
  have : mulOk a b := .inl (.inr ⟨by have := h.1; omega, by have := h.2; omega⟩)
  unfold mulD
  exact if_pos this
theorem mulD_l (a b : Int) (h : -18446744073709551616 < a ∧ a < 18446744073709551616) : mulD (.int a) (.int b) = .ok (.int (a * b)) := by
  have : mulOk a b := .inl (.inl ⟨by have := h.1; omega, by have := h.2; omega⟩)
  unfold mulD
  exact if_pos this
theorem modD_p (a b : Int) (h : 0 < b) : modD (.int a) (.int b) = .ok (.int (a % b)) := if_pos h
theorem fdivD_p (a b : Int) (h : 0 < b ∧ b < 18446744073709551616) : fdivD (.int a) (.int b) = .ok (.int (a / b)) := by
  have e : divOk a b := by
    refine ⟨h.1, ?_⟩
    have : b.natAbs < 2 ^ 64 := by omega
    have h0 : b.natAbs ≠ 0 := by omega
    have := (Nat.log2_lt h0).mpr this
    omega
  exact if_pos e
theorem powD_p (a b : Int) (h : 0 ≤ b ∧ b ≤ 1000000) (h2 : a.natAbs < 18446744073709551616) : powD (.int a) (.int b) = .ok (.int (a ^ b.toNat)) := by
  have e : powOk a b := ⟨h.1, h.2, by omega⟩
  exact if_pos e
theorem addD_i (a b : Int) : addD (.int a) (.int b) = .ok (.int (a + b)) := rfl
theorem subD_i (a b : Int) : subD (.int a) (.int b) = .ok (.int (a - b)) := rfl
theorem tru_bl (b : Bool) : tru (.bl b) = .ok b := rfl
theorem mTst_bl {m : Env → Res D} {ρ : Env} {b : Bool} (h : m ρ = .ok (.bl b)) : mTst m ρ = .ok b := by unfold mTst; rw [h]; rfl
/-! statements -/
theorem seq_nx {m m' : Env → Flow} {ρ ρ' : Env} (h : m ρ = .nx ρ') : mSeq m m' ρ = m' ρ' := by unfold mSeq; rw [h]
theorem seq_rt {m m' : Env → Flow} {ρ ρ' : Env} {d : D} (h : m ρ = .rt d ρ') : mSeq m m' ρ = .rt d ρ' := by unfold mSeq; rw [h]
theorem seq_er {m m' : Env → Flow} {ρ ρ' : Env} {x : Exc} (h : m ρ = .er x ρ') : mSeq m m' ρ = .er x ρ' := by unfold mSeq; rw [h]
theorem set_ok {m : Env → Res D} {ρ : Env} {d : D} {i : Nat} (h : m ρ = .ok d) (k : okS ρ i = true) : mSet i m ρ = .nx (ρ.set i (.v (.d d))) := by unfold mSet; rw [h]; unfold put; exact if_pos k
theorem setO_ok {m : Env → Res (List D)} {ρ : Env} {d : List D} {i : Nat} (h : m ρ = .ok d) (k : okS ρ i = true) : mSetO i m ρ = .nx (ρ.set i (.v (.ol d))) := by unfold mSetO; rw [h]; unfold put; exact if_pos k
theorem ret_ok {m : Env → Res D} {ρ : Env} {d : D} (h : m ρ = .ok d) : mRet m ρ = .rt d ρ := by unfold mRet; rw [h]; rfl
theorem if_t {t : Env → Res Bool} {m m' : Env → Flow} {ρ : Env} (h : t ρ = .ok true) : mIfS t m m' ρ = m ρ := by unfold mIfS; rw [h]; rfl
theorem if_f {t : Env → Res Bool} {m m' : Env → Flow} {ρ : Env} (h : t ρ = .ok false) : mIfS t m m' ρ = m' ρ := by unfold mIfS; rw [h]; rfl
theorem seq_if_f {t : Env → Res Bool} {m m' : Env → Flow} {ρ : Env} (h : t ρ = .ok false) : mSeq (mIfS t m mEnd) m' ρ = m' ρ := seq_nx (if_f h)
theorem seq_if_t {t : Env → Res Bool} {m m1 m' : Env → Flow} {ρ : Env} (h : t ρ = .ok true) : mSeq (mIfS t m m1) m' ρ = mSeq m m' ρ := by unfold mSeq; rw [if_t h]
theorem runD_rt {l : Nat} {m : Env → Flow} {ds : List D} {d : D} {ρ : Env} (h : m (startE l ds) = .rt d ρ) : runD l m ds = .ok d := by unfold runD; rw [h]
theorem for_ok {mi : Env → Res (List D)} {g : D → Env → Option Env} {mb : Env → Flow} {ρ : Env} {xs : List D} (h : mi ρ = .ok xs) : mFor mi g mb ρ = forL g mb xs ρ := by unfold mFor; rw [h]; rfl
theorem forL_cons {g : D → Env → Option Env} {mb : Env → Flow} {ρ ρ1 ρ2 : Env} {x : D} {xs : List D} (h : g x ρ = some ρ1) (h2 : mb ρ1 = .nx ρ2) : forL g mb (x :: xs) ρ = forL g mb xs ρ2 := by
  show (match g x ρ with
    | none => Flow.bad
    | some ρ1 => match mb ρ1 with
      | .nx ρ2 => forL g mb xs ρ2
      | f => f) = _
  rw [h]
  show (match mb ρ1 with
      | .nx ρ2 => forL g mb xs ρ2
      | f => f) = _
  rw [h2]
theorem rangeD_len (lo c : Int) (n : Nat) : (rangeD lo c n).length = n := by unfold rangeD; simp
/-- a loop with an invariant: it goes through -/
theorem forL_inv (I : Nat → Env → Prop) {g : D → Env → Option Env} {mb : Env → Flow} : ∀ (xs : List D) (k : Nat) (ρ : Env), I k ρ →
    (∀ j ρ d, I (k + j) ρ → xs[j]? = some d → ∃ ρ1 ρ2, g d ρ = some ρ1 ∧ mb ρ1 = .nx ρ2 ∧ I (k + j + 1) ρ2) → ∃ ρ', forL g mb xs ρ = .nx ρ' ∧ I (k + xs.length) ρ'
  | [], k, ρ, h, _ => ⟨ρ, rfl, h⟩
  | x :: xs, k, ρ, h, st => by
    obtain ⟨ρ1, ρ2, e1, e2, h2⟩ := st 0 ρ x h rfl
    rw [forL_cons e1 e2]
    obtain ⟨ρ', e, h3⟩ := forL_inv I xs (k + 1) ρ2 h2 fun j ρ d hI hd => by
      have := st (j + 1) ρ d (by have e : k + (j + 1) = k + 1 + j := by omega
                                 rw [e]; exact hI) (by simpa using hd)
      have e : k + (j + 1) + 1 = k + 1 + j + 1 := by omega
      rw [e] at this
      exact this
    refine ⟨ρ', e, ?_⟩
    have e : k + (x :: xs).length = k + 1 + xs.length := by simp; omega
    rw [e]; exact h3
theorem rangeD_get {lo c : Int} {n j : Nat} {d : D} (h : (rangeD lo c n)[j]? = some d) : j < n ∧ d = .int (lo + j * c) := by
  unfold rangeD at h
  rw [List.getElem?_map] at h
  cases q : (List.range n)[j]? with
  | none => rw [q] at h; cases h
  | some i =>
    rw [q] at h
    obtain ⟨hl, e⟩ := List.getElem?_eq_some_iff.mp q
    rw [List.length_range] at hl
    rw [List.getElem_range] at e
    subst e
    exact ⟨hl, (Option.some.inj h).symm⟩
/-! comprehensions: every item gives a value -/
theorem compL_map {g : D → Env → Option Env} {mt : Env → Res Bool} {me : Env → Res D} {ρ : Env} (f : D → D) : ∀ (xs : List D), (∀ x ∈ xs, ∃ ρ1, g x ρ = some ρ1 ∧ mt ρ1 = .ok true ∧ me ρ1 = .ok (f x)) → compL g mt me ρ xs = .ok (xs.map f)
  | [], _ => rfl
  | x :: xs, h => by
    obtain ⟨ρ1, e1, e2, e3⟩ := h x (List.mem_cons_self ..)
    unfold compL
    rw [e1]
    show (nerr (mt ρ1) >>= _) = _
    rw [e2]
    show (nerr (me ρ1) >>= _) = _
    rw [e3]
    show (compL g mt me ρ xs >>= _) = _
    rw [compL_map f xs fun y hy => h y (List.mem_cons_of_mem _ hy)]
    rfl
theorem comp_map {vs : List Nat} {mi : Env → Res (List D)} {g : D → Env → Option Env} {mt : Env → Res Bool} {me : Env → Res D} {ρ : Env} {xs : List D} (f : D → D) (hi : mi ρ = .ok xs) (hl : xs.length ≤ sizeLine) (h : ∀ x ∈ xs, ∃ ρ1, g x (wipeE ρ vs) = some ρ1 ∧ mt ρ1 = .ok true ∧ me ρ1 = .ok (f x)) : mComp vs mi g mt me ρ = .ok (xs.map f) := by
  unfold mComp
  rw [hi]
  show (match decide (xs.length ≤ sizeLine) with
    | true => compL g mt me (wipeE ρ vs) xs
    | false => .bad) = _
  rw [decide_eq_true hl]
  exact compL_map f xs h
theorem boolsOf_map {α : Type} (f : α → Bool) : ∀ xs : List α, boolsOf (xs.map fun x => .bl (f x)) = some (xs.map f)
  | [] => rfl
  | x :: xs => by
    show (boolsOf (xs.map fun x => D.bl (f x))).map (f x :: ·) = _
    rw [boolsOf_map f xs]
    rfl
/-! the words at given values -/
theorem idxD_lst (xs : List D) (i : Int) : idxD (.lst xs) (.int i) = opt (atI xs i) := rfl
theorem idxD_tup (xs : List D) (i : Int) : idxD (.tup xs) (.int i) = opt (atI xs i) := rfl
theorem idxD_scr (xs : List Int) (i : Int) : idxD (.scr xs) (.int i) = opt ((atI xs i).map .int) := rfl
theorem ltD_i (a b : Int) : ltD (.int a) (.int b) = .ok (.bl (decide (a < b))) := rfl
theorem leD_i (a b : Int) : leD (.int a) (.int b) = .ok (.bl (decide (a ≤ b))) := rfl
theorem gtD_i (a b : Int) : gtD (.int a) (.int b) = .ok (.bl (decide (a > b))) := rfl
theorem geD_i (a b : Int) : geD (.int a) (.int b) = .ok (.bl (decide (a ≥ b))) := rfl
theorem eqD_i (a b : Int) : eqD (.int a) (.int b) = .ok (.bl (decide (a = b))) := rfl
theorem neD_i (a b : Int) : neD (.int a) (.int b) = .ok (.bl (!decide (a = b))) := rfl
theorem eqD_b (a b : Bool) : eqD (.bl a) (.bl b) = .ok (.bl (decide (a = b))) := rfl
theorem neD_b (a b : Bool) : neD (.bl a) (.bl b) = .ok (.bl (!decide (a = b))) := rfl
theorem eqD_s (a b : Str) : eqD (.str a) (.str b) = .ok (.bl (decide (a = b))) := rfl
theorem neD_s (a b : Str) : neD (.str a) (.str b) = .ok (.bl (!decide (a = b))) := rfl
theorem absD_i (i : Int) : absD [.int i] = .ok (.int (if i < 0 then -i else i)) := rfl
theorem intD_i (i : Int) : intD [.int i] = .ok (.int i) := rfl
theorem negD_i (i : Int) : negD (.int i) = .ok (.int (-i)) := rfl
theorem lenD_lst (xs : List D) : lenD [.lst xs] = .ok (.int xs.length) := rfl
theorem lenD_tup (xs : List D) : lenD [.tup xs] = .ok (.int xs.length) := rfl
theorem lenD_scr (xs : List Int) : lenD [.scr xs] = .ok (.int xs.length) := rfl
theorem opt_some {α : Type} (a : α) : opt (some a) = .ok a := rfl
theorem rng1_p (n : Nat) (h : n < 4611686018427387904) : rng1 [.int n] = .ok (rangeD 0 1 n) := by
  have e : -(2 ^ 62) ≤ (n : Int) ∧ (n : Int) < 2 ^ 62 := ⟨by omega, by omega⟩
  unfold rng1
  dsimp only
  rw [if_pos e, Int.toNat_natCast]
theorem allD_b {α : Type} (f : α → Bool) (xs : List α) : allD [.lst (xs.map fun x => .bl (f x))] = .ok (.bl (xs.all f)) := by
  show (opt (boolsOf (xs.map fun x => .bl (f x))) >>= fun ns => Res.ok (D.bl (ns.all id))) = _
  rw [boolsOf_map f xs]
  show Res.ok (D.bl ((xs.map f).all id)) = _
  rw [List.all_map]
  rfl
theorem appG_ok (xs : List D) (d : D) (h : xs.length < sizeLine) : appG xs [d] = .ok (xs ++ [d]) := if_pos h
/-! tests and statements as values -/
def andB : Res Bool → Res Bool → Res Bool
  | .ok true, r => r
  | .ok false, _ => .ok false
  | .err x, _ => .err x
  | .bad, _ => .bad
def orB : Res Bool → Res Bool → Res Bool
  | .ok true, _ => .ok true
  | .ok false, r => r
  | .err x, _ => .err x
  | .bad, _ => .bad
def andVB : Res D → Res D → Res D
  | .ok (.bl true), r => r
  | .ok (.bl false), _ => .ok (.bl false)
  | .err x, _ => .err x
  | _, _ => .bad
def orVB : Res D → Res D → Res D
  | .ok (.bl true), _ => .ok (.bl true)
  | .ok (.bl false), r => r
  | .err x, _ => .err x
  | _, _ => .bad
theorem nr {α : Type} {a b : α} (h : a = b) : a = b := h
theorem andB_ok (a b : Bool) : andB (.ok a) (.ok b) = .ok (a && b) := by cases a <;> rfl
theorem andB_f (r : Res Bool) : andB (.ok false) r = .ok false := nr rfl
theorem andB_t (r : Res Bool) : andB (.ok true) r = r := nr rfl
theorem orB_ok (a b : Bool) : orB (.ok a) (.ok b) = .ok (a || b) := by cases a <;> rfl
theorem orB_f (r : Res Bool) : orB (.ok false) r = r := nr rfl
theorem orB_t (r : Res Bool) : orB (.ok true) r = .ok true := nr rfl
theorem andVB_ok (a b : Bool) : andVB (.ok (.bl a)) (.ok (.bl b)) = .ok (.bl (a && b)) := by cases a <;> rfl
theorem andVB_f (r : Res D) : andVB (.ok (.bl false)) r = .ok (.bl false) := nr rfl
theorem andVB_t (r : Res D) : andVB (.ok (.bl true)) r = r := nr rfl
theorem orVB_ok (a b : Bool) : orVB (.ok (.bl a)) (.ok (.bl b)) = .ok (.bl (a || b)) := by cases a <;> rfl
theorem orVB_f (r : Res D) : orVB (.ok (.bl false)) r = r := nr rfl
theorem orVB_t (r : Res D) : orVB (.ok (.bl true)) r = .ok (.bl true) := nr rfl
theorem mAnd_B (ta tb : Env → Res Bool) (ρ : Env) : mAnd ta tb ρ = andB (ta ρ) (tb ρ) := by
  unfold mAnd
  cases ta ρ with
  | ok b => cases b <;> rfl
  | err x => rfl
  | bad => rfl
theorem mOr_B (ta tb : Env → Res Bool) (ρ : Env) : mOr ta tb ρ = orB (ta ρ) (tb ρ) := by
  unfold mOr
  cases ta ρ with
  | ok b => cases b <;> rfl
  | err x => rfl
  | bad => rfl
theorem mAndV_B (ta tb : Env → Res D) (ρ : Env) : mAndV ta tb ρ = andVB (ta ρ) (tb ρ) := by
  unfold mAndV
  cases ta ρ with
  | ok d =>
    cases d with
    | bl b => cases b <;> rfl
    | _ => rfl
  | err x => rfl
  | bad => rfl
theorem mOrV_B (ta tb : Env → Res D) (ρ : Env) : mOrV ta tb ρ = orVB (ta ρ) (tb ρ) := by
  unfold mOrV
  cases ta ρ with
  | ok d =>
    cases d with
    | bl b => cases b <;> rfl
    | _ => rfl
  | err x => rfl
  | bad => rfl
theorem mChain_B (g g' : D → D → Res D) (ma mb mc : Env → Res D) (ρ : Env) : mChain g g' ma mb mc ρ = (ma ρ >>= fun x => mb ρ >>= fun y => andVB (g x y) (mc ρ >>= fun z => g' y z)) := by
  unfold mChain
  cases ma ρ with
  | err x => rfl
  | bad => rfl
  | ok x =>
    cases mb ρ with
    | err x => rfl
    | bad => rfl
    | ok y =>
      show ((g x y >>= tru) >>= _) = andVB (g x y) _
      cases g x y with
      | ok d =>
        cases d with
        | bl b => cases b <;> rfl
        | _ => rfl
      | err x => rfl
      | bad => rfl
def seqF : Flow → (Env → Flow) → Flow
  | .nx ρ, m => m ρ
  | f, _ => f
theorem mSeq_B (m m' : Env → Flow) (ρ : Env) : mSeq m m' ρ = seqF (m ρ) m' := by
  unfold mSeq seqF
  cases m ρ <;> rfl
theorem seqF_nx (ρ : Env) (m : Env → Flow) : seqF (.nx ρ) m = m ρ := nr rfl
theorem seqF_rt (d : D) (ρ : Env) (m : Env → Flow) : seqF (.rt d ρ) m = .rt d ρ := nr rfl
theorem seqF_er (x : Exc) (ρ : Env) (m : Env → Flow) : seqF (.er x ρ) m = .er x ρ := nr rfl
theorem seqF_if (c : Prop) [Decidable c] (a b : Flow) (m : Env → Flow) : seqF (if c then a else b) m = if c then seqF a m else seqF b m := by split <;> rfl
theorem mIfS_B (t : Env → Res Bool) (m m' : Env → Flow) (ρ : Env) : mIfS t m m' ρ = bindF (t ρ) ρ fun k => if k = true then m ρ else m' ρ := by
  unfold mIfS
  cases t ρ with
  | ok b => cases b <;> rfl
  | err x => rfl
  | bad => rfl
theorem mIf_B {α : Type} (t : Env → Res Bool) (m m' : Env → Res α) (ρ : Env) : mIf t m m' ρ = (t ρ >>= fun k => if k = true then m ρ else m' ρ) := by
  unfold mIf
  cases t ρ with
  | ok b => cases b <;> rfl
  | err x => rfl
  | bad => rfl
theorem bind_if {α β : Type} (c : Prop) [Decidable c] (a b : Res α) (f : α → Res β) : ((if c then a else b) >>= f) = if c then (a >>= f) else (b >>= f) := by split <;> rfl
theorem bindF_if {α : Type} (c : Prop) [Decidable c] (a b : Res α) (ρ : Env) (f : α → Flow) : bindF (if c then a else b) ρ f = if c then bindF a ρ f else bindF b ρ f := by split <;> rfl
def runF : Flow → Res D
  | .nx _ => .ok .non
  | .rt d _ => .ok d
  | .er x _ => .err x
  | .bad => .bad
theorem runD_B (l : Nat) (m : Env → Flow) (ds : List D) : runD l m ds = runF (m (startE l ds)) := by unfold runD runF; cases m (startE l ds) <;> rfl
theorem runF_rt (d : D) (ρ : Env) : runF (.rt d ρ) = .ok d := nr rfl
theorem runF_nx (ρ : Env) : runF (.nx ρ) = .ok .non := nr rfl
theorem runF_er (x : Exc) (ρ : Env) : runF (.er x ρ) = .err x := nr rfl
theorem runF_if (c : Prop) [Decidable c] (a b : Flow) : runF (if c then a else b) = if c then runF a else runF b := by split <;> rfl
def runIF (c : Nat) : Flow → Res (List D)
  | .nx ρ => finI c ρ
  | .er x _ => .err x
  | _ => .bad
theorem runI_B (l c : Nat) (m : Env → Flow) (ds : List D) : runI l c m ds = runIF c (m (startI l c ds)) := by unfold runI runIF; cases m (startI l c ds) <;> rfl
theorem runIF_nx (c : Nat) (ρ : Env) : runIF c (.nx ρ) = finI c ρ := nr rfl
theorem runIF_er (c : Nat) (x : Exc) (ρ : Env) : runIF c (.er x ρ) = .err x := nr rfl
theorem runIF_if (k : Nat) (c : Prop) [Decidable c] (a b : Flow) : runIF k (if c then a else b) = if c then runIF k a else runIF k b := by split <;> rfl
theorem addD_l (a b : List D) : addD (.lst a) (.lst b) = if a.length + b.length ≤ sizeLine then .ok (.lst (a ++ b)) else .bad := nr rfl
theorem addD_t (a b : List D) : addD (.tup a) (.tup b) = if a ≠ [] ∧ b ≠ [] ∧ a.length + b.length ≤ sizeLine then .ok (.tup (a ++ b)) else .bad := nr rfl
theorem szl : sizeLine = 16777216 := nr rfl
def optF : Option Env → (Env → Flow) → Flow
  | some ρ, f => f ρ
  | none, _ => .bad
theorem optF_some (ρ : Env) (f : Env → Flow) : optF (some ρ) f = f ρ := nr rfl
theorem forL_nil (g : D → Env → Option Env) (mb : Env → Flow) (ρ : Env) : forL g mb [] ρ = .nx ρ := nr rfl
theorem forL_c (g : D → Env → Option Env) (mb : Env → Flow) (x : D) (xs : List D) (ρ : Env) : forL g mb (x :: xs) ρ = optF (g x ρ) fun ρ1 => seqF (mb ρ1) (forL g mb xs) := by
  show (match g x ρ with
    | none => Flow.bad
    | some ρ1 => match mb ρ1 with
      | .nx ρ2 => forL g mb xs ρ2
      | f => f) = _
  cases g x ρ with
  | none => rfl
  | some ρ1 =>
    show (match mb ρ1 with
      | .nx ρ2 => forL g mb xs ρ2
      | f => f) = seqF (mb ρ1) _
    cases mb ρ1 <;> rfl
theorem mFor_B (mi : Env → Res (List D)) (g : D → Env → Option Env) (mb : Env → Flow) (ρ : Env) : mFor mi g mb ρ = bindF (mi ρ) ρ fun xs => forL g mb xs ρ := nr rfl
theorem compL_nil (g : D → Env → Option Env) (mt : Env → Res Bool) (me : Env → Res D) (ρ : Env) : compL g mt me ρ [] = .ok [] := nr rfl
def optR {α : Type} : Option Env → (Env → Res α) → Res α
  | some ρ, f => f ρ
  | none, _ => .bad
theorem optR_some {α : Type} (ρ : Env) (f : Env → Res α) : optR (some ρ) f = f ρ := nr rfl
theorem compL_c (g : D → Env → Option Env) (mt : Env → Res Bool) (me : Env → Res D) (ρ : Env) (x : D) (xs : List D) : compL g mt me ρ (x :: xs) = optR (g x ρ) fun ρ1 => nerr (mt ρ1) >>= fun b => if b = true then nerr (me ρ1) >>= fun d => compL g mt me ρ xs >>= fun ds => .ok (d :: ds) else compL g mt me ρ xs := by
  show (match g x ρ with
    | none => Res.bad
    | some ρ1 => nerr (mt ρ1) >>= fun b => match b with
      | true => nerr (me ρ1) >>= fun d => compL g mt me ρ xs >>= fun ds => .ok (d :: ds)
      | false => compL g mt me ρ xs) = _
  cases g x ρ with
  | none => rfl
  | some ρ1 =>
    show (nerr (mt ρ1) >>= _) = (nerr (mt ρ1) >>= _)
    cases nerr (mt ρ1) with
    | ok b => cases b <;> rfl
    | err x => rfl
    | bad => rfl
theorem nerr_ok {α : Type} (a : α) : nerr (.ok a : Res α) = .ok a := nr rfl
theorem mComp_B (vs : List Nat) (mi : Env → Res (List D)) (g : D → Env → Option Env) (mt : Env → Res Bool) (me : Env → Res D) (ρ : Env) : mComp vs mi g mt me ρ = (mi ρ >>= fun xs => if xs.length ≤ sizeLine then compL g mt me (wipeE ρ vs) xs else .bad) := by
  unfold mComp
  cases mi ρ with
  | ok xs =>
    show (match decide (xs.length ≤ sizeLine) with
      | true => compL g mt me (wipeE ρ vs) xs
      | false => .bad) = if xs.length ≤ sizeLine then compL g mt me (wipeE ρ vs) xs else .bad
    by_cases h : xs.length ≤ sizeLine
    · rw [if_pos h, decide_eq_true h]
    · rw [if_neg h, decide_eq_false h]
  | err x => rfl
  | bad => rfl
theorem allD_l (xs : List D) : allD [.lst xs] = (opt (boolsOf xs) >>= fun ns => .ok (.bl (ns.all id))) := nr rfl
theorem anyD_l (xs : List D) : anyD [.lst xs] = (opt (boolsOf xs) >>= fun ns => .ok (.bl (ns.any id))) := nr rfl
theorem bools_nil : boolsOf [] = some [] := nr rfl
theorem bools_c (b : Bool) (xs : List D) : boolsOf (.bl b :: xs) = (boolsOf xs).map (b :: ·) := nr rfl
theorem seqOf_l (xs : List D) : seqOf (.lst xs) = .ok xs := nr rfl
theorem seqOf_t (xs : List D) : seqOf (.tup xs) = .ok xs := nr rfl
/-! slots that may be stored -/
theorem okS_s (a : Sl) (l : Env) (i : Nat) : okS (a :: l) (i + 1) = okS l i := nr rfl
theorem okS_v (x : Fd) (l : Env) : okS (.v x :: l) 0 = true := nr rfl
theorem okS_no (l : Env) : okS (.no :: l) 0 = true := nr rfl
def fine (s : Sl) : Prop := ∀ l, okS (s :: l) 0 = true
theorem fine_v (x : Fd) : fine (.v x) := fun _ => rfl
theorem fine_no : fine .no := fun _ => rfl
theorem compL_gen {α : Type} (e : α → D) (p : α → Bool) (f : α → D) {g : D → Env → Option Env} {mt : Env → Res Bool} {me : Env → Res D} {ρ : Env} : ∀ xs : List α, (∀ x ∈ xs, ∃ ρ1, g (e x) ρ = some ρ1 ∧ mt ρ1 = .ok (p x) ∧ (p x = true → me ρ1 = .ok (f x))) → compL g mt me ρ (xs.map e) = .ok ((xs.filter p).map f)
  | [], _ => rfl
  | x :: xs, h => by
    obtain ⟨ρ1, e1, e2, e3⟩ := h x (List.mem_cons_self ..)
    rw [List.map_cons, compL_c, e1, optR_some, e2, nerr_ok, bind_ok, compL_gen e p f xs fun y hy => h y (List.mem_cons_of_mem _ hy)]
    by_cases hp : p x = true
    · rw [if_pos hp, e3 hp, nerr_ok, bind_ok, bind_ok, List.filter_cons, if_pos hp, List.map_cons]
    · rw [if_neg hp, List.filter_cons, if_neg hp]
theorem compL_all {α : Type} (e f : α → D) {g : D → Env → Option Env} {mt : Env → Res Bool} {me : Env → Res D} {ρ : Env} (xs : List α) (h : ∀ x ∈ xs, ∃ ρ1, g (e x) ρ = some ρ1 ∧ mt ρ1 = .ok true ∧ me ρ1 = .ok (f x)) : compL g mt me ρ (xs.map e) = .ok (xs.map f) := by
  have := compL_gen e (fun _ => true) f xs fun x hx => by
    obtain ⟨ρ1, e1, e2, e3⟩ := h x hx
    exact ⟨ρ1, e1, e2, fun _ => e3⟩
  rw [this, List.filter_eq_self.mpr fun _ _ => rfl]
theorem ints_map {α : Type} (f : α → Int) : ∀ xs : List α, intsOf (xs.map fun x => .int (f x)) = some (xs.map f)
  | [] => rfl
  | x :: xs => by
    show (intsOf (xs.map fun x => D.int (f x))).map (f x :: ·) = _
    rw [ints_map f xs]
    rfl
theorem sumD_map {α : Type} (f : α → Int) (xs : List α) : sumD [.lst (xs.map fun x => .int (f x))] = .ok (.int ((xs.map f).sum)) := by
  show (opt (intsOf (xs.map fun x => D.int (f x))) >>= fun ns => Res.ok (D.int ns.sum)) = _
  rw [ints_map f xs]
  rfl
theorem selfB_eq (c : Nat) (f : Str) (fs : List (Str × Fd)) (l : Env) : mSelfB 0 c f (.oo c fs :: l) = opt ((fs.lookup f).map fdD) := by
  show (if c = c then opt ((fs.lookup f).map fdD) else .bad) = _
  rw [if_pos rfl]
theorem mEnd_B (ρ : Env) : mEnd ρ = .nx ρ := nr rfl
theorem bindF_err' {α : Type} (x : Exc) (ρ : Env) (f : α → Flow) : bindF (.err x) ρ f = .er x ρ := nr rfl
/-- a loop that goes through, whatever the items -/
theorem forL_all (I : Env → Prop) {g : D → Env → Option Env} {mb : Env → Flow} : ∀ (xs : List D) (ρ : Env), I ρ → (∀ x ∈ xs, ∀ ρ, I ρ → ∃ ρ1 ρ2, g x ρ = some ρ1 ∧ mb ρ1 = .nx ρ2 ∧ I ρ2) → ∃ ρ', forL g mb xs ρ = .nx ρ' ∧ I ρ'
  | [], ρ, h, _ => ⟨ρ, rfl, h⟩
  | x :: xs, ρ, h, st => by
    obtain ⟨ρ1, ρ2, e1, e2, h2⟩ := st x (List.mem_cons_self ..) ρ h
    rw [forL_cons e1 e2]
    exact forL_all I xs ρ2 h2 fun y hy => st y (List.mem_cons_of_mem _ hy)
end Cr
/-! Tl: typed readings of the mirrors. -/
namespace Cr
open PySem L2
/-! ### types -/
class Enc (α : Type) where
  en : α → D
abbrev enc {α : Type} [Enc α] (a : α) : D := Enc.en a
instance : Enc Int := ⟨.int⟩
instance : Enc Bool := ⟨.bl⟩
instance : Enc Str := ⟨.str⟩
instance : Enc Unit := ⟨fun _ => .non⟩
instance : Enc D := ⟨fun d => d⟩
instance {α : Type} [Enc α] : Enc (List α) := ⟨fun xs => .lst (xs.map Enc.en)⟩
instance {α : Type} [Enc α] : Enc (Option α) := ⟨fun o => match o with
  | none => .non
  | some a => Enc.en a⟩
/-- a tuple read as a row of any length -/
structure TL (α : Type) where
  l : List α
deriving DecidableEq
instance {α : Type} [Enc α] : Enc (TL α) := ⟨fun x => .tup (x.l.map Enc.en)⟩
/-- the script -/
structure Scr where
  l : List Int
instance : Enc Scr := ⟨fun x => .scr x.l⟩
structure T1 (A : Type) where
  a : A
deriving DecidableEq
structure T2 (A B : Type) where
  a : A
  b : B
deriving DecidableEq
structure T3 (A B C : Type) where
  a : A
  b : B
  c : C
deriving DecidableEq
structure T4 (A B C E : Type) where
  a : A
  b : B
  c : C
  d : E
deriving DecidableEq
structure T5 (A B C E F : Type) where
  a : A
  b : B
  c : C
  d : E
  e : F
deriving DecidableEq
instance {A : Type} [Enc A] : Enc (T1 A) := ⟨fun x => .tup [Enc.en x.a]⟩
instance {A B : Type} [Enc A] [Enc B] : Enc (T2 A B) := ⟨fun x => .tup [Enc.en x.a, Enc.en x.b]⟩
instance {A B C : Type} [Enc A] [Enc B] [Enc C] : Enc (T3 A B C) := ⟨fun x => .tup [Enc.en x.a, Enc.en x.b, Enc.en x.c]⟩
instance {A B C E : Type} [Enc A] [Enc B] [Enc C] [Enc E] : Enc (T4 A B C E) := ⟨fun x => .tup [Enc.en x.a, Enc.en x.b, Enc.en x.c, Enc.en x.d]⟩
instance {A B C E F : Type} [Enc A] [Enc B] [Enc C] [Enc E] [Enc F] : Enc (T5 A B C E F) := ⟨fun x => .tup [Enc.en x.a, Enc.en x.b, Enc.en x.c, Enc.en x.d, Enc.en x.e]⟩
/-! lists of a fixed length with items of several kinds -/
structure R1 (A : Type) where
  a : A
structure R2 (A B : Type) where
  a : A
  b : B
structure R3 (A B C : Type) where
  a : A
  b : B
  c : C
structure R4 (A B C E : Type) where
  a : A
  b : B
  c : C
  d : E
structure R5 (A B C E F : Type) where
  a : A
  b : B
  c : C
  d : E
  e : F
instance {A : Type} [Enc A] : Enc (R1 A) := ⟨fun x => .lst [Enc.en x.a]⟩
instance {A B : Type} [Enc A] [Enc B] : Enc (R2 A B) := ⟨fun x => .lst [Enc.en x.a, Enc.en x.b]⟩
instance {A B C : Type} [Enc A] [Enc B] [Enc C] : Enc (R3 A B C) := ⟨fun x => .lst [Enc.en x.a, Enc.en x.b, Enc.en x.c]⟩
instance {A B C E : Type} [Enc A] [Enc B] [Enc C] [Enc E] : Enc (R4 A B C E) := ⟨fun x => .lst [Enc.en x.a, Enc.en x.b, Enc.en x.c, Enc.en x.d]⟩
instance {A B C E F : Type} [Enc A] [Enc B] [Enc C] [Enc E] [Enc F] : Enc (R5 A B C E F) := ⟨fun x => .lst [Enc.en x.a, Enc.en x.b, Enc.en x.c, Enc.en x.d, Enc.en x.e]⟩
/-! ### what a typed reading says -/
/-- a flow against a typed end -/
def SimD {γ : Type} (Q : γ → Flow → Prop) (E : Env → Prop) (f : Flow) (T : Res γ) : Prop := match T with
  | .ok g => Q g f
  | .err x => ∃ ρ, f = .er x ρ ∧ E ρ
  | .bad => True
structure Sim {γ : Type} (Q : γ → Flow → Prop) (E : Env → Prop) (f : Flow) (T : Res γ) : Prop where
  run : SimD Q E f T
/-- a value against a typed one -/
def LeD {α δ : Type} (e : α → δ) (r : Res δ) (t : Res α) : Prop := match t with
  | .ok a => r = .ok (e a)
  | .err x => r = .err x
  | .bad => True
structure Le {α δ : Type} (e : α → δ) (r : Res δ) (t : Res α) : Prop where
  g : LeD e r t
abbrev encs {α : Type} [Enc α] (xs : List α) : List D := xs.map Enc.en
abbrev tt : Env → Prop := fun _ => True
inductive Fl (R σ : Type) where
  | ret (r : R)
  | nxt (s : σ)
/-- a def's end -/
def QF {α : Type} [Enc α] (a : α) (f : Flow) : Prop := (∃ ρ, f = .rt (enc a) ρ) ∨ (enc a = .non ∧ ∃ ρ, f = .nx ρ)
def QN {σ : Type} (I : σ → Env → Prop) (s : σ) (f : Flow) : Prop := ∃ ρ, f = .nx ρ ∧ I s ρ
def QL {R σ : Type} [Enc R] (I : σ → Env → Prop) (r : Fl R σ) (f : Flow) : Prop := match r with
  | .ret r => ∃ ρ, f = .rt (enc r) ρ
  | .nxt s => ∃ ρ, f = .nx ρ ∧ I s ρ
def QI {α : Type} (c : Nat) (fs : α → List D) (a : α) (f : Flow) : Prop := ∃ ρ, f = .nx ρ ∧ finI c ρ = .ok (fs a)
section
variable {γ : Type} {Q : γ → Flow → Prop} {E : Env → Prop} {ρ : Env} {T : Res γ} {α β : Type} {f : Flow}
theorem sim_bad {f : Flow} : Sim Q E f .bad := ⟨trivial⟩
/-! ### values -/
theorem c_ok {r : Res D} {K : D → Flow} [Enc α] (v : α) (h : r = .ok (enc v)) (k : Sim Q E (K (enc v)) T) : Sim Q E (bindF r ρ K) T := by
  rw [h]; exact k
theorem c_okb {r : Res Bool} {K : Bool → Flow} (v : Bool) (h : r = .ok v) (k : Sim Q E (K v) T) : Sim Q E (bindF r ρ K) T := by
  rw [h]; exact k
theorem c_okl {r : Res (List D)} {K : List D → Flow} [Enc α] (v : List α) (h : r = .ok (encs v)) (k : Sim Q E (K (encs v)) T) : Sim Q E (bindF r ρ K) T := by
  rw [h]; exact k
theorem c_okg {δ : Type} {r : Res δ} {K : δ → Flow} (v : δ) (h : r = .ok v) (k : Sim Q E (K v) T) : Sim Q E (bindF r ρ K) T := by
  rw [h]; exact k
theorem c_leaf {δ : Type} {e : α → δ} {r : Res δ} {t : Res α} {K : δ → Flow} {S : α → Res γ} (h : Le e r t) (hE : E ρ) (k : ∀ a, Sim Q E (K (e a)) (S a)) : Sim Q E (bindF r ρ K) (t >>= S) := by
  cases t with
  | ok a =>
    have h : r = .ok (e a) := h.g
    rw [h]; exact k a
  | err x =>
    have h : r = .err x := h.g
    rw [h]; exact ⟨⟨ρ, rfl, hE⟩⟩
  | bad => exact ⟨trivial⟩
theorem bindF_as {α β : Type} (r : Res α) (g : α → Res β) (K : β → Flow) : bindF (r >>= g) ρ K = bindF r ρ fun x => bindF (g x) ρ K := by cases r <;> rfl
theorem c_bin {g : D → D → Res D} {ma mb : Env → Res D} {K : D → Flow} (h : Sim Q E (bindF (ma ρ) ρ fun x => bindF (mb ρ) ρ fun y => bindF (g x y) ρ K) T) : Sim Q E (bindF (mBin g ma mb ρ) ρ K) T := by
  have e : bindF (mBin g ma mb ρ) ρ K = bindF (ma ρ) ρ fun x => bindF (mb ρ) ρ fun y => bindF (g x y) ρ K := by
    unfold mBin
    rw [bindF_as]
    congr 1; funext x
    rw [bindF_as]
  rw [e]; exact h
end
section
variable {γ : Type} {Q : γ → Flow → Prop} {E : Env → Prop} {ρ : Env} {T : Res γ} {α β : Type} {f : Flow}
theorem c_binF {g : D → D → Res (List D)} {ma mb : Env → Res D} {K : List D → Flow} (h : Sim Q E (bindF (ma ρ) ρ fun x => bindF (mb ρ) ρ fun y => bindF (g x y) ρ K) T) : Sim Q E (bindF (mBinF g ma mb ρ) ρ K) T := by
  have e : bindF (mBinF g ma mb ρ) ρ K = bindF (ma ρ) ρ fun x => bindF (mb ρ) ρ fun y => bindF (g x y) ρ K := by
    unfold mBinF
    rw [bindF_as]
    congr 1; funext x
    rw [bindF_as]
  rw [e]; exact h
theorem c_un {g : D → Res D} {ma : Env → Res D} {K : D → Flow} (h : Sim Q E (bindF (ma ρ) ρ fun x => bindF (g x) ρ K) T) : Sim Q E (bindF (mUn g ma ρ) ρ K) T := by
  have e : bindF (mUn g ma ρ) ρ K = bindF (ma ρ) ρ fun x => bindF (g x) ρ K := by
    unfold mUn; rw [bindF_as]
  rw [e]; exact h
theorem c_unF {g : D → Res (List D)} {ma : Env → Res D} {K : List D → Flow} (h : Sim Q E (bindF (ma ρ) ρ fun x => bindF (g x) ρ K) T) : Sim Q E (bindF (mUnF g ma ρ) ρ K) T := by
  have e : bindF (mUnF g ma ρ) ρ K = bindF (ma ρ) ρ fun x => bindF (g x) ρ K := by
    unfold mUnF; rw [bindF_as]
  rw [e]; exact h
theorem c_toE {m : Env → Res (List D)} {K : D → Flow} (h : Sim Q E (bindF (m ρ) ρ fun x => K (.lst x)) T) : Sim Q E (bindF (toE m ρ) ρ K) T := by
  have e : bindF (toE m ρ) ρ K = bindF (m ρ) ρ fun x => K (.lst x) := by
    unfold toE; rw [bindF_as]; rfl
  rw [e]; exact h
theorem c_arg {δ : Type} {g : List D → Res δ} {ms : Env → Res (List D)} {K : δ → Flow} (h : Sim Q E (bindF (ms ρ) ρ fun xs => bindF (g xs) ρ K) T) : Sim Q E (bindF (mArg g ms ρ) ρ K) T := by
  have e : bindF (mArg g ms ρ) ρ K = bindF (ms ρ) ρ fun xs => bindF (g xs) ρ K := by
    unfold mArg; rw [bindF_as]
  rw [e]; exact h
theorem c_nil {K : List D → Flow} (h : Sim Q E (K []) T) : Sim Q E (bindF (mNil ρ) ρ K) T := h
theorem c_cons {ma : Env → Res D} {mr : Env → Res (List D)} {K : List D → Flow} (h : Sim Q E (bindF (ma ρ) ρ fun x => bindF (mr ρ) ρ fun xs => K (x :: xs)) T) : Sim Q E (bindF (mCons ma mr ρ) ρ K) T := by
  have e : bindF (mCons ma mr ρ) ρ K = bindF (ma ρ) ρ fun x => bindF (mr ρ) ρ fun xs => K (x :: xs) := by
    unfold mCons
    rw [bindF_as]
    congr 1; funext x
    rw [bindF_as]; rfl
  rw [e]; exact h
theorem c_tup {ms : Env → Res (List D)} {K : D → Flow} (h : Sim Q E (bindF (ms ρ) ρ fun xs => bindF (if xs.length ≤ sizeLine then Res.ok (D.tup xs) else .bad) ρ K) T) : Sim Q E (bindF (mTup ms ρ) ρ K) T := by
  have e : bindF (mTup ms ρ) ρ K = bindF (ms ρ) ρ fun xs => bindF (if xs.length ≤ sizeLine then Res.ok (D.tup xs) else .bad) ρ K := by
    unfold mTup; rw [bindF_as]
  rw [e]; exact h
theorem c_lst {ms : Env → Res (List D)} {K : List D → Flow} (h : Sim Q E (bindF (ms ρ) ρ fun xs => bindF (if xs.length ≤ sizeLine then Res.ok xs else .bad) ρ K) T) : Sim Q E (bindF (mLst ms ρ) ρ K) T := by
  have e : bindF (mLst ms ρ) ρ K = bindF (ms ρ) ρ fun xs => bindF (if xs.length ≤ sizeLine then Res.ok xs else .bad) ρ K := by
    unfold mLst; rw [bindF_as]
  rw [e]; exact h
theorem c_mth {c : Nat} {δ : Type} {mf : List D → Res δ} {mo : Env → Res D} {ms : Env → Res (List D)} {K : δ → Flow} (fs : List D) (v : D) (hv : v = .obj c fs)
    (ho : ∀ K' : D → Flow, Sim Q E (K' v) T → Sim Q E (bindF (mo ρ) ρ K') T) (h : Sim Q E (bindF (ms ρ) ρ fun xs => bindF (mf (v :: xs)) ρ K) T) : Sim Q E (bindF (mMth c mf mo ms ρ) ρ K) T := by
  subst hv
  have e : bindF (mMth c mf mo ms ρ) ρ K = bindF (mo ρ) ρ fun d => bindF (match d with
    | .obj c' xs => if c' = c then ms ρ >>= fun ds => mf (.obj c' xs :: ds) else .bad
    | _ => .bad) ρ K := by
    unfold mMth
    exact bindF_as _ _ _
  rw [e]
  refine ho _ ?_
  show Sim Q E (bindF (if c = c then ms ρ >>= fun ds => mf (.obj c fs :: ds) else .bad) ρ K) T
  rw [if_pos rfl, bindF_as]
  exact h
theorem c_mk {c : Nat} {mf : List D → Res (List D)} {ms : Env → Res (List D)} {K : D → Flow} (h : Sim Q E (bindF (ms ρ) ρ fun xs => bindF (mf xs) ρ fun fs => K (.obj c fs)) T) : Sim Q E (bindF (mMk c mf ms ρ) ρ K) T := by
  have e : bindF (mMk c mf ms ρ) ρ K = bindF (ms ρ) ρ fun xs => bindF (mf xs) ρ fun fs => K (.obj c fs) := by
    unfold mMk
    rw [bindF_as]
    congr 1; funext x
    rw [bindF_as]; rfl
  rw [e]; exact h
theorem c_sl {δ : Type} {g : D → Option Int → Option Int → Res δ} {ma : Env → Res D} {ml mh : Env → Res (Option Int)} {K : δ → Flow}
    (h : Sim Q E (bindF (ma ρ) ρ fun x => bindF (ml ρ) ρ fun l => bindF (mh ρ) ρ fun u => bindF (g x l u) ρ K) T) : Sim Q E (bindF (mSl g ma ml mh ρ) ρ K) T := by
  have e : bindF (mSl g ma ml mh ρ) ρ K = bindF (ma ρ) ρ fun x => bindF (ml ρ) ρ fun l => bindF (mh ρ) ρ fun u => bindF (g x l u) ρ K := by
    unfold mSl
    rw [bindF_as]
    congr 1; funext x
    rw [bindF_as]
    congr 1; funext y
    rw [bindF_as]
  rw [e]; exact h
theorem c_part {m : Env → Res D} {K : Option Int → Flow} (h : Sim Q E (bindF (m ρ) ρ fun x => bindF (intO x) ρ K) T) : Sim Q E (bindF (mPart m ρ) ρ K) T := by
  have e : bindF (mPart m ρ) ρ K = bindF (m ρ) ρ fun x => bindF (intO x) ρ K := by
    unfold mPart; rw [bindF_as]
  rw [e]; exact h
theorem c_int {i : Int} {K : Option Int → Flow} (h : Sim Q E (K (some i)) T) : Sim Q E (bindF (intO (enc i)) ρ K) T := h
theorem c_no {K : Option Int → Flow} (h : Sim Q E (K none) T) : Sim Q E (bindF (mNo ρ) ρ K) T := h
/-! tests -/
theorem c_tst {m : Env → Res D} {K : Bool → Flow} (h : Sim Q E (bindF (m ρ) ρ fun x => bindF (tru x) ρ K) T) : Sim Q E (bindF (mTst m ρ) ρ K) T := by
  have e : bindF (mTst m ρ) ρ K = bindF (m ρ) ρ fun x => bindF (tru x) ρ K := by
    unfold mTst; rw [bindF_as]
  rw [e]; exact h
theorem c_tru {b : Bool} {K : Bool → Flow} (h : Sim Q E (K b) T) : Sim Q E (bindF (tru (enc b)) ρ K) T := h
theorem c_not {t : Env → Res Bool} {K : Bool → Flow} (h : Sim Q E (bindF (t ρ) ρ fun k => K (!k)) T) : Sim Q E (bindF (mNot t ρ) ρ K) T := by
  have e : bindF (mNot t ρ) ρ K = bindF (t ρ) ρ fun k => K (!k) := by
    unfold mNot; rw [bindF_as]; rfl
  rw [e]; exact h
theorem c_notV {t : Env → Res D} {K : D → Flow} (h : Sim Q E (bindF (t ρ) ρ fun x => bindF (tru x) ρ fun k => K (enc (!k))) T) : Sim Q E (bindF (mNotV t ρ) ρ K) T := by
  have e : bindF (mNotV t ρ) ρ K = bindF (t ρ) ρ fun x => bindF (tru x) ρ fun k => K (enc (!k)) := by
    unfold mNotV; rw [bindF_as, bindF_as]; rfl
  rw [e]; exact h
end
/-! short circuits, typed -/
def andR (a : Bool) (b : Res Bool) : Res Bool := if a = true then b else .ok false
def orR (a : Bool) (b : Res Bool) : Res Bool := if a = true then .ok true else b
def ifR {α : Type} (c : Bool) (a b : Res α) : Res α := if c = true then a else b
theorem andR_ok (a b : Bool) : andR a (.ok b) = .ok (a && b) := by cases a <;> rfl
theorem orR_ok (a b : Bool) : orR a (.ok b) = .ok (a || b) := by cases a <;> rfl
theorem ifR_ok {α : Type} (c : Bool) (a b : α) : ifR c (.ok a) (.ok b) = .ok (if c = true then a else b) := by cases c <;> rfl
theorem andR_t (b : Res Bool) : andR true b = b := rfl
theorem andR_f (b : Res Bool) : andR false b = .ok false := rfl
theorem orR_t (b : Res Bool) : orR true b = .ok true := rfl
theorem orR_f (b : Res Bool) : orR false b = b := rfl
theorem ifR_t {α : Type} (a b : Res α) : ifR true a b = a := rfl
theorem ifR_f {α : Type} (a b : Res α) : ifR false a b = b := rfl
end Cr
/-! Tl, part 2: tests, statements, loops. -/
namespace Cr
open PySem L2
section
variable {γ : Type} {Q : γ → Flow → Prop} {E : Env → Prop} {ρ ρ' : Env} {T : Res γ} {α β σ : Type} {k : Env → Flow}
theorem le_sim [Enc α] {r : Res D} {t : Res α} (h : Sim (fun (a : α) f => f = .rt (enc a) ρ) tt (bindF r ρ fun d => .rt d ρ) t) : Le enc r t := by
  have h := h.run
  refine ⟨?_⟩
  cases r with
  | ok d =>
    cases t with
    | ok a =>
      have h : Flow.rt d ρ = .rt (enc a) ρ := h
      cases h; rfl
    | err x =>
      obtain ⟨ρ', h, _⟩ := h
      cases h
    | bad => trivial
  | err y =>
    cases t with
    | ok a =>
      have h : Flow.er y ρ = .rt (enc a) ρ := h
      cases h
    | err x =>
      obtain ⟨ρ', h, _⟩ := h
      cases h; rfl
    | bad => trivial
  | bad =>
    cases t with
    | ok a =>
      have h : Flow.bad = .rt (enc a) ρ := h
      cases h
    | err x =>
      obtain ⟨ρ', h, _⟩ := h
      cases h
    | bad => trivial
theorem le_simb {r : Res Bool} {t : Res Bool} (h : Sim (fun (a : Bool) f => f = .rt (enc a) ρ) tt (bindF r ρ fun d => .rt (enc d) ρ) t) : Le id r t := by
  have h := h.run
  refine ⟨?_⟩
  cases r with
  | ok d =>
    cases t with
    | ok a =>
      have h : Flow.rt (enc d) ρ = .rt (enc a) ρ := h
      cases h; rfl
    | err x =>
      obtain ⟨ρ', h, _⟩ := h
      cases h
    | bad => trivial
  | err y =>
    cases t with
    | ok a =>
      have h : Flow.er y ρ = .rt (enc a) ρ := h
      cases h
    | err x =>
      obtain ⟨ρ', h, _⟩ := h
      cases h; rfl
    | bad => trivial
  | bad =>
    cases t with
    | ok a =>
      have h : Flow.bad = .rt (enc a) ρ := h
      cases h
    | err x =>
      obtain ⟨ρ', h, _⟩ := h
      cases h
    | bad => trivial
theorem e_val [Enc α] {d : D} (a : α) (h : d = enc a) : Sim (fun (a : α) f => f = .rt (enc a) ρ) E (.rt d ρ) (.ok a) := ⟨by subst h; rfl⟩
theorem le_refl {δ : Type} {e : α → δ} {r : Res δ} {a : α} (h : r = .ok (e a)) : Le e r (.ok a) := ⟨h⟩
theorem le_of_ok {δ : Type} {e : α → δ} {r : Res δ} {t : Res α} {a : α} (h : Le e r t) (ht : t = .ok a) : r = .ok (e a) := by subst ht; exact h.g
theorem le_of_err {δ : Type} {e : α → δ} {r : Res δ} {t : Res α} {x : Exc} (h : Le e r t) (ht : t = .err x) : r = .err x := by subst ht; exact h.g
/-! short circuits -/
def andM (a : Bool) (r : Res Bool) : Res Bool := if a = true then r else .ok false
def orM (a : Bool) (r : Res Bool) : Res Bool := if a = true then .ok true else r
def andMV (a : Bool) (r : Res D) : Res D := if a = true then r else .ok (enc false)
def orMV (a : Bool) (r : Res D) : Res D := if a = true then .ok (enc true) else r
def ifM {δ : Type} (a : Bool) (r r' : Res δ) : Res δ := if a = true then r else r'
theorem le_and {a : Bool} {r t : Res Bool} (h : a = true → Le id r t) : Le id (andM a r) (andR a t) := by
  cases a
  · exact ⟨rfl⟩
  · exact h rfl
theorem le_or {a : Bool} {r t : Res Bool} (h : a = false → Le id r t) : Le id (orM a r) (orR a t) := by
  cases a
  · exact h rfl
  · exact ⟨rfl⟩
theorem le_andV {a : Bool} {r : Res D} {t : Res Bool} (h : a = true → Le enc r t) : Le enc (andMV a r) (andR a t) := by
  cases a
  · exact ⟨rfl⟩
  · exact h rfl
theorem le_orV {a : Bool} {r : Res D} {t : Res Bool} (h : a = false → Le enc r t) : Le enc (orMV a r) (orR a t) := by
  cases a
  · exact h rfl
  · exact ⟨rfl⟩
theorem le_if {δ : Type} {e : α → δ} {a : Bool} {r r' : Res δ} {t t' : Res α} (h : a = true → Le e r t) (h' : a = false → Le e r' t') : Le e (ifM a r r') (ifR a t t') := by
  cases a
  · exact h' rfl
  · exact h rfl
theorem c_and {ta tb : Env → Res Bool} {K : Bool → Flow} (h : Sim Q E (bindF (ta ρ) ρ fun a => bindF (andM a (tb ρ)) ρ K) T) : Sim Q E (bindF (mAnd ta tb ρ) ρ K) T := by
  have e : bindF (mAnd ta tb ρ) ρ K = bindF (ta ρ) ρ fun a => bindF (andM a (tb ρ)) ρ K := by
    unfold mAnd
    rw [bindF_as]
    congr 1; funext x
    cases x <;> rfl
  rw [e]; exact h
theorem c_or {ta tb : Env → Res Bool} {K : Bool → Flow} (h : Sim Q E (bindF (ta ρ) ρ fun a => bindF (orM a (tb ρ)) ρ K) T) : Sim Q E (bindF (mOr ta tb ρ) ρ K) T := by
  have e : bindF (mOr ta tb ρ) ρ K = bindF (ta ρ) ρ fun a => bindF (orM a (tb ρ)) ρ K := by
    unfold mOr
    rw [bindF_as]
    congr 1; funext x
    cases x <;> rfl
  rw [e]; exact h
theorem c_andV {ma mb : Env → Res D} {K : D → Flow} (h : Sim Q E (bindF (ma ρ) ρ fun x => bindF (tru x) ρ fun a => bindF (andMV a (mb ρ)) ρ K) T) : Sim Q E (bindF (mAndV ma mb ρ) ρ K) T := by
  have e : bindF (mAndV ma mb ρ) ρ K = bindF (ma ρ) ρ fun x => bindF (tru x) ρ fun a => bindF (andMV a (mb ρ)) ρ K := by
    unfold mAndV
    rw [bindF_as, bindF_as]
    congr 1; funext x
    congr 1; funext x
    cases x <;> rfl
  rw [e]; exact h
theorem c_orV {ma mb : Env → Res D} {K : D → Flow} (h : Sim Q E (bindF (ma ρ) ρ fun x => bindF (tru x) ρ fun a => bindF (orMV a (mb ρ)) ρ K) T) : Sim Q E (bindF (mOrV ma mb ρ) ρ K) T := by
  have e : bindF (mOrV ma mb ρ) ρ K = bindF (ma ρ) ρ fun x => bindF (tru x) ρ fun a => bindF (orMV a (mb ρ)) ρ K := by
    unfold mOrV
    rw [bindF_as, bindF_as]
    congr 1; funext x
    congr 1; funext x
    cases x <;> rfl
  rw [e]; exact h
theorem c_if {δ : Type} {t : Env → Res Bool} {ma mb : Env → Res δ} {K : δ → Flow} (h : Sim Q E (bindF (t ρ) ρ fun a => bindF (ifM a (ma ρ) (mb ρ)) ρ K) T) : Sim Q E (bindF (mIf t ma mb ρ) ρ K) T := by
  have e : bindF (mIf t ma mb ρ) ρ K = bindF (t ρ) ρ fun a => bindF (ifM a (ma ρ) (mb ρ)) ρ K := by
    unfold mIf
    rw [bindF_as]
    congr 1; funext x
    cases x <;> rfl
  rw [e]; exact h
theorem c_chain {g g' : D → D → Res D} {ma mb mc : Env → Res D} {K : D → Flow} (h : Sim Q E (bindF (ma ρ) ρ fun x => bindF (mb ρ) ρ fun y => bindF (g x y) ρ fun d => bindF (tru d) ρ fun a => bindF (andMV a (mc ρ >>= fun z => g' y z)) ρ K) T) : Sim Q E (bindF (mChain g g' ma mb mc ρ) ρ K) T := by
  have e : bindF (mChain g g' ma mb mc ρ) ρ K = bindF (ma ρ) ρ fun x => bindF (mb ρ) ρ fun y => bindF (g x y) ρ fun d => bindF (tru d) ρ fun a => bindF (andMV a (mc ρ >>= fun z => g' y z)) ρ K := by
    unfold mChain
    rw [bindF_as]
    congr 1; funext x
    rw [bindF_as]
    congr 1; funext y
    rw [bindF_as, bindF_as]
    congr 1; funext d
    congr 1; funext a
    cases a <;> rfl
  rw [e]; exact h
theorem c_bnd {δ ε : Type} {r : Res δ} {g : δ → Res ε} {K : ε → Flow} (h : Sim Q E (bindF r ρ fun x => bindF (g x) ρ K) T) : Sim Q E (bindF (r >>= g) ρ K) T := by
  rw [bindF_as]; exact h
/-! pure -/
theorem p_bin {g : D → D → Res D} {ma mb : Env → Res D} {x y z : D} (ha : ma ρ = .ok x) (hb : mb ρ = .ok y) (h : g x y = .ok z) : mBin g ma mb ρ = .ok z := by
  unfold mBin; rw [ha, bind_ok, hb, bind_ok]; exact h
theorem p_un {g : D → Res D} {ma : Env → Res D} {x z : D} (ha : ma ρ = .ok x) (h : g x = .ok z) : mUn g ma ρ = .ok z := by
  unfold mUn; rw [ha]; exact h
theorem p_unF {g : D → Res (List D)} {ma : Env → Res D} {x : D} {z : List D} (ha : ma ρ = .ok x) (h : g x = .ok z) : mUnF g ma ρ = .ok z := by
  unfold mUnF; rw [ha]; exact h
theorem p_arg {δ : Type} {g : List D → Res δ} {ms : Env → Res (List D)} {xs : List D} {z : δ} (ha : ms ρ = .ok xs) (h : g xs = .ok z) : mArg g ms ρ = .ok z := by
  unfold mArg; rw [ha]; exact h
theorem p_nil : mNil ρ = .ok [] := rfl
theorem p_cons {ma : Env → Res D} {mr : Env → Res (List D)} {x : D} {xs : List D} (ha : ma ρ = .ok x) (hr : mr ρ = .ok xs) : mCons ma mr ρ = .ok (x :: xs) := by
  unfold mCons; rw [ha, bind_ok, hr]; rfl
theorem p_toE {m : Env → Res (List D)} {xs : List D} (h : m ρ = .ok xs) : toE m ρ = .ok (.lst xs) := by
  unfold toE; rw [h]; rfl
theorem p_tup {ms : Env → Res (List D)} {xs : List D} (h : ms ρ = .ok xs) (hl : Nat.ble xs.length 16777216 = true) : mTup ms ρ = .ok (.tup xs) := by
  unfold mTup; rw [h]
  show (if xs.length ≤ sizeLine then Res.ok (D.tup xs) else .bad) = _
  exact if_pos (Nat.le_of_ble_eq_true hl)
theorem p_lst {ms : Env → Res (List D)} {xs : List D} (h : ms ρ = .ok xs) (hl : Nat.ble xs.length 16777216 = true) : mLst ms ρ = .ok xs := by
  unfold mLst; rw [h]
  show (if xs.length ≤ sizeLine then Res.ok xs else .bad) = _
  exact if_pos (Nat.le_of_ble_eq_true hl)
theorem p_size {δ : Type} {xs : List D} {z : δ} (hl : Nat.ble xs.length 16777216 = true) : (if xs.length ≤ sizeLine then Res.ok z else .bad) = Res.ok z := if_pos (Nat.le_of_ble_eq_true hl)
theorem p_tst {m : Env → Res D} {b : Bool} (h : m ρ = .ok (enc b)) : mTst m ρ = .ok b := by unfold mTst; rw [h]; rfl
theorem p_not {t : Env → Res Bool} {b : Bool} (h : t ρ = .ok b) : mNot t ρ = .ok (!b) := by unfold mNot; rw [h]; rfl
theorem p_and {ta tb : Env → Res Bool} {a b : Bool} (h : ta ρ = .ok a) (h' : tb ρ = .ok b) : mAnd ta tb ρ = .ok (a && b) := by
  unfold mAnd; rw [h, bind_ok]
  cases a
  · rfl
  · exact h'
theorem p_or {ta tb : Env → Res Bool} {a b : Bool} (h : ta ρ = .ok a) (h' : tb ρ = .ok b) : mOr ta tb ρ = .ok (a || b) := by
  unfold mOr; rw [h, bind_ok]
  cases a
  · exact h'
  · rfl
theorem p_notV {m : Env → Res D} {b : Bool} (h : m ρ = .ok (enc b)) : mNotV m ρ = .ok (enc (!b)) := by unfold mNotV; rw [h]; rfl
theorem p_andV {ta tb : Env → Res D} {a b : Bool} (h : ta ρ = .ok (enc a)) (h' : tb ρ = .ok (enc b)) : mAndV ta tb ρ = .ok (enc (a && b)) := by
  unfold mAndV; rw [h]
  cases a
  · rfl
  · exact h'
theorem p_orV {ta tb : Env → Res D} {a b : Bool} (h : ta ρ = .ok (enc a)) (h' : tb ρ = .ok (enc b)) : mOrV ta tb ρ = .ok (enc (a || b)) := by
  unfold mOrV; rw [h]
  cases a
  · exact h'
  · rfl
theorem p_if {t : Env → Res Bool} {ma mb : Env → Res D} [Enc α] {c : Bool} {a b : α} (h : t ρ = .ok c) (ha : ma ρ = .ok (enc a)) (hb : mb ρ = .ok (enc b)) : mIf t ma mb ρ = .ok (enc (if c = true then a else b)) := by
  unfold mIf; rw [h]
  cases c
  · exact hb
  · exact ha
theorem p_chain {g g' : D → D → Res D} {ma mb mc : Env → Res D} {x y z : D} {a b : Bool} (h : ma ρ = .ok x) (h' : mb ρ = .ok y) (h2 : mc ρ = .ok z) (hg : g x y = .ok (enc a)) (hg' : g' y z = .ok (enc b)) : mChain g g' ma mb mc ρ = .ok (enc (a && b)) := by
  unfold mChain; rw [h, bind_ok, h', bind_ok, hg]
  cases a
  · rfl
  · show (mc ρ >>= fun z => g' y z) = _
    rw [h2]; exact hg'
theorem p_sl {δ : Type} {g : D → Option Int → Option Int → Res δ} {ma : Env → Res D} {ml mh : Env → Res (Option Int)} {x : D} {l u : Option Int} {z : δ} (h : ma ρ = .ok x) (h1 : ml ρ = .ok l) (h2 : mh ρ = .ok u) (hg : g x l u = .ok z) : mSl g ma ml mh ρ = .ok z := by
  unfold mSl; rw [h, bind_ok, h1, bind_ok, h2]; exact hg
theorem p_part {m : Env → Res D} {i : Int} (h : m ρ = .ok (enc i)) : mPart m ρ = .ok (some i) := by unfold mPart; rw [h]; rfl
theorem p_cmp {g : D → D → Res D} {x y z : D} (h : g x y = .ok z) : g x y = .ok z := h
theorem p_bnd {δ ε : Type} {r : Res δ} {g : δ → Res ε} {x : δ} {z : ε} (h : r = .ok x) (h' : g x = .ok z) : (r >>= g) = .ok z := by rw [h]; exact h'
/-! statements -/
theorem seqF_end (f : Flow) : seqF f Flow.nx = f := by cases f <;> rfl
theorem q_top {f : Flow} (h : Sim Q E (seqF f Flow.nx) T) : Sim Q E f T := by rw [seqF_end] at h; exact h
theorem seqF_as (f : Flow) (a b : Env → Flow) : seqF (seqF f a) b = seqF f fun ρ => seqF (a ρ) b := by cases f <;> rfl
theorem q_seq {m m' : Env → Flow} (h : Sim Q E (seqF (m ρ) fun ρ' => seqF (m' ρ') k) T) : Sim Q E (seqF (mSeq m m' ρ) k) T := by
  rw [mSeq_B, seqF_as]; exact h
theorem q_end (h : Sim Q E (k ρ) T) : Sim Q E (seqF (mEnd ρ) k) T := h
theorem seqF_bind {δ : Type} (r : Res δ) (f : δ → Flow) : seqF (bindF r ρ f) k = bindF r ρ fun d => seqF (f d) k := by cases r <;> rfl
theorem q_set {i : Nat} {m : Env → Res D} (h : Sim Q E (bindF (m ρ) ρ fun d => seqF (put i (.v (.d d)) ρ) k) T) : Sim Q E (seqF (mSet i m ρ) k) T := by
  unfold mSet; rw [seqF_bind]; exact h
theorem q_setO {i : Nat} {m : Env → Res (List D)} (h : Sim Q E (bindF (m ρ) ρ fun d => seqF (put i (.v (.ol d)) ρ) k) T) : Sim Q E (seqF (mSetO i m ρ) k) T := by
  unfold mSetO; rw [seqF_bind]; exact h
theorem q_put {i : Nat} {s : Sl} (ρ' : Env) (ho : okS ρ i = true) (e : ρ.set i s = ρ') (h : Sim Q E (k ρ') T) : Sim Q E (seqF (put i s ρ) k) T := by
  unfold put; rw [if_pos ho, e]; exact h
theorem q_letE {v : α} {F : α → Res γ} {K : Flow} (h : Sim Q E K (F v)) : Sim Q E K ((fun f : α → Res γ => f v) F) := h
theorem q_ex {δ : Type} {m : Env → Res δ} (h : Sim Q E (bindF (m ρ) ρ fun _ => k ρ) T) : Sim Q E (seqF (mEx m ρ) k) T := by
  unfold mEx; rw [seqF_bind]; exact h
theorem q_ret {m : Env → Res D} (h : Sim Q E (bindF (m ρ) ρ fun d => .rt d ρ) T) : Sim Q E (seqF (mRet m ρ) k) T := by
  unfold mRet; rw [seqF_bind]; exact h
theorem q_raise {x : Exc} (h : E ρ) : Sim Q E (seqF (mRaise x ρ) k) (.err x) := ⟨⟨ρ, rfl, h⟩⟩
theorem q_frz {i : Nat} {m : Env → Flow} (ρ' : Env) (e : frzE i ρ = ρ') (h : Sim Q E (seqF (m ρ') k) T) : Sim Q E (seqF (mFrz i m ρ) k) T := by
  unfold mFrz; rw [e]; exact h
theorem q_asg {g : D → Env → Option Env} {m : Env → Res D} (h : Sim Q E (bindF (m ρ) ρ fun d => optF (g d ρ) k) T) : Sim Q E (seqF (mAsg g m ρ) k) T := by
  have e : seqF (mAsg g m ρ) k = bindF (m ρ) ρ fun d => optF (g d ρ) k := by
    unfold mAsg; rw [seqF_bind]
    congr 1; funext d
    cases g d ρ <;> rfl
  rw [e]; exact h
theorem q_opt {o : Option Env} (ρ' : Env) (e : o = some ρ') (h : Sim Q E (k ρ') T) : Sim Q E (optF o k) T := by rw [e]; exact h
theorem q_par {i j : Nat} {ms : Env → Res (List D)} (h : Sim Q E (bindF (ms ρ) ρ fun ds => seqF (match ds with
  | [d, d2] => if okS ρ i = true ∧ okS (ρ.set i (.v (.d d))) j = true then .nx ((ρ.set i (.v (.d d))).set j (.v (.d d2))) else .bad
  | _ => .bad) k) T) : Sim Q E (seqF (mPar i j ms ρ) k) T := by
  unfold mPar; rw [seqF_bind]; exact h
theorem q_par2 {i j : Nat} {d d2 : D} (ρ' : Env) (h1 : okS ρ i = true) (h2 : okS (ρ.set i (.v (.d d))) j = true) (e : (ρ.set i (.v (.d d))).set j (.v (.d d2)) = ρ') (h : Sim Q E (k ρ') T) : Sim Q E (seqF (match [d, d2] with
  | [d, d2] => if okS ρ i = true ∧ okS (ρ.set i (.v (.d d))) j = true then .nx ((ρ.set i (.v (.d d))).set j (.v (.d d2))) else .bad
  | _ => .bad) k) T := by
  have z : (if okS ρ i = true ∧ okS (ρ.set i (.v (.d d))) j = true then Flow.nx ((ρ.set i (.v (.d d))).set j (.v (.d d2))) else .bad) = .nx ρ' := by rw [if_pos ⟨h1, h2⟩, e]
  show Sim Q E (seqF (if okS ρ i = true ∧ okS (ρ.set i (.v (.d d))) j = true then .nx ((ρ.set i (.v (.d d))).set j (.v (.d d2))) else .bad) k) T
  rw [z]; exact h
theorem q_lm {i : Nat} {g : List D → List D → Res (List D)} {ms : Env → Res (List D)} (xs : List D) (R : List D → Env) (e : ρ[i]? = some (.v (.ol xs))) (hR : ∀ ys, ρ.set i (.v (.ol ys)) = R ys) (h : Sim Q E (bindF (ms ρ) ρ fun ds => bindF (g xs ds) ρ fun ys => k (R ys)) T) : Sim Q E (seqF (mLm i g ms ρ) k) T := by
  rw [← funext hR] at h
  unfold mLm; rw [e]
  show Sim Q E (seqF (bindF (ms ρ) ρ fun ds => bindF (g xs ds) ρ fun ys => .nx (ρ.set i (.v (.ol ys)))) k) T
  rw [seqF_bind]
  have z : (fun ds => seqF (bindF (g xs ds) ρ fun ys => .nx (ρ.set i (.v (.ol ys)))) k) = fun ds => bindF (g xs ds) ρ fun ys => k (ρ.set i (.v (.ol ys))) := by
    funext ds; rw [seqF_bind]; rfl
  rw [z]; exact h
theorem q_setix {i : Nat} {mj me : Env → Res D} (xs : List D) (R : List D → Env) (e : ρ[i]? = some (.v (.ol xs))) (hR : ∀ ys, ρ.set i (.v (.ol ys)) = R ys) (h : Sim Q E (bindF (me ρ) ρ fun d => bindF (mj ρ) ρ fun j => bindF (setG xs j d) ρ fun ys => k (R ys)) T) : Sim Q E (seqF (mSetIx i mj me ρ) k) T := by
  rw [← funext hR] at h
  unfold mSetIx; rw [seqF_bind]
  refine Eq.mpr (congrArg (fun f => Sim Q E (bindF (me ρ) ρ f) T) (funext fun d => ?_)) h
  rw [e]
  show seqF (bindF (mj ρ) ρ fun j => bindF (setG xs j d) ρ fun ys => .nx (ρ.set i (.v (.ol ys)))) k = _
  rw [seqF_bind]
  congr 1; funext j
  rw [seqF_bind]; rfl
theorem q_slm {i c : Nat} {f : Str} {g : List D → List D → Res (List D)} {ms : Env → Res (List D)} (fs : List (Str × Fd)) (xs : List D) (R : List D → Env) (e : ρ[i]? = some (.oo c fs)) (e2 : fs.lookup f = some (.ol xs)) (hR : ∀ ys, ρ.set i (.oo c (putFd f (.ol ys) fs)) = R ys) (h : Sim Q E (bindF (ms ρ) ρ fun ds => bindF (g xs ds) ρ fun ys => k (R ys)) T) : Sim Q E (seqF (mSelfLm i c f g ms ρ) k) T := by
  rw [← funext hR] at h
  unfold mSelfLm; rw [e]
  show Sim Q E (seqF (if c = c then (match fs.lookup f with
    | some (.ol xs) => bindF (ms ρ) ρ fun ds => bindF (g xs ds) ρ fun ys => .nx (ρ.set i (.oo c (putFd f (.ol ys) fs)))
    | _ => .bad) else .bad) k) T
  rw [if_pos rfl, e2]
  show Sim Q E (seqF (bindF (ms ρ) ρ fun ds => bindF (g xs ds) ρ fun ys => .nx (ρ.set i (.oo c (putFd f (.ol ys) fs)))) k) T
  rw [seqF_bind]
  have z : (fun ds => seqF (bindF (g xs ds) ρ fun ys => .nx (ρ.set i (.oo c (putFd f (.ol ys) fs)))) k) = fun ds => bindF (g xs ds) ρ fun ys => k (ρ.set i (.oo c (putFd f (.ol ys) fs))) := by
    funext ds; rw [seqF_bind]; rfl
  rw [z]; exact h
theorem q_sset {i c : Nat} {f : Str} {m : Env → Res D} (fs : List (Str × Fd)) (R : D → Env) (e : ρ[i]? = some (.oo c fs)) (hl : Nat.blt fs.length 1000 = true) (hR : ∀ d, ρ.set i (.oo c (putFd f (.d d) fs)) = R d) (h : Sim Q E (bindF (m ρ) ρ fun d => k (R d)) T) : Sim Q E (seqF (mSelfSet i c f m ρ) k) T := by
  rw [← funext hR] at h
  unfold mSelfSet; rw [seqF_bind]
  refine Eq.mpr (congrArg (fun f => Sim Q E (bindF (m ρ) ρ f) T) (funext fun d => ?_)) h
  rw [e]
  show seqF (if c = c ∧ fs.length < 1000 then .nx (ρ.set i (.oo c (putFd f (.d d) fs))) else .bad) k = _
  rw [if_pos ⟨rfl, Nat.le_of_ble_eq_true hl⟩]; rfl
theorem q_ssetO {i c : Nat} {f : Str} {m : Env → Res (List D)} (fs : List (Str × Fd)) (R : List D → Env) (e : ρ[i]? = some (.oo c fs)) (hl : Nat.blt fs.length 1000 = true) (hR : ∀ d, ρ.set i (.oo c (putFd f (.ol d) fs)) = R d) (h : Sim Q E (bindF (m ρ) ρ fun d => k (R d)) T) : Sim Q E (seqF (mSelfSetO i c f m ρ) k) T := by
  rw [← funext hR] at h
  unfold mSelfSetO; rw [seqF_bind]
  refine Eq.mpr (congrArg (fun f => Sim Q E (bindF (m ρ) ρ f) T) (funext fun d => ?_)) h
  rw [e]
  show seqF (if c = c ∧ fs.length < 1000 then .nx (ρ.set i (.oo c (putFd f (.ol d) fs))) else .bad) k = _
  rw [if_pos ⟨rfl, Nat.le_of_ble_eq_true hl⟩]; rfl
/-! ifs -/
theorem q_if {t : Env → Res Bool} {m m' : Env → Flow} (h : Sim Q E (bindF (t ρ) ρ fun b => seqF (if b = true then m ρ else m' ρ) k) T) : Sim Q E (seqF (mIfS t m m' ρ) k) T := by
  rw [mIfS_B, seqF_bind]; exact h
theorem q_ite {c : Bool} {f f' : Flow} {T' : Res γ} (h : c = true → Sim Q E (seqF f k) T) (h' : c = false → Sim Q E (seqF f' k) T') : Sim Q E (seqF (if c = true then f else f') k) (if c = true then T else T') := by
  cases c
  · exact h' rfl
  · exact h rfl
theorem q_join {I : σ → Env → Prop} {f : Flow} {t : Res σ} {S : σ → Res γ} (h : Sim (QN I) E (seqF f Flow.nx) t) (hk : ∀ s ρ, I s ρ → Sim Q E (k ρ) (S s)) : Sim Q E (seqF f k) (t >>= S) := by
  rw [seqF_end] at h
  have h := h.run
  cases t with
  | ok s =>
    obtain ⟨ρ', rfl, hI⟩ := h
    exact hk s ρ' hI
  | err x =>
    obtain ⟨ρ', rfl, hE⟩ := h
    exact ⟨⟨ρ', rfl, hE⟩⟩
  | bad => exact ⟨trivial⟩
def onF {R σ γ : Type} (t : Res (Fl R σ)) (a : R → Res γ) (b : σ → Res γ) : Res γ := t >>= fun r => match r with
  | .ret r => a r
  | .nxt s => b s
theorem q_joinR {R : Type} [Enc R] {I : σ → Env → Prop} {f : Flow} {t : Res (Fl R σ)} {A : R → Res γ} {S : σ → Res γ} (h : Sim (QL I) E (seqF f Flow.nx) t) (hr : ∀ r ρ, Sim Q E (.rt (enc r) ρ) (A r)) (hk : ∀ s ρ, I s ρ → Sim Q E (k ρ) (S s)) : Sim Q E (seqF f k) (onF t A S) := by
  rw [seqF_end] at h
  have h := h.run
  cases t with
  | ok s =>
    cases s with
    | ret r =>
      obtain ⟨ρ', rfl⟩ := h
      exact hr r ρ'
    | nxt s =>
      obtain ⟨ρ', rfl, hI⟩ := h
      exact hk s ρ' hI
  | err x =>
    obtain ⟨ρ', rfl, hE⟩ := h
    exact ⟨⟨ρ', rfl, hE⟩⟩
  | bad => exact ⟨trivial⟩
theorem s_nx {I : σ → Env → Prop} {s : σ} (h : I s ρ) : Sim (QN I) E (Flow.nx ρ) (.ok s) := ⟨⟨ρ, rfl, h⟩⟩
theorem s_nxR {R : Type} [Enc R] {I : σ → Env → Prop} {s : σ} (h : I s ρ) : Sim (QL (R := R) I) E (Flow.nx ρ) (.ok (.nxt s)) := ⟨⟨ρ, rfl, h⟩⟩
theorem s_rtR {R : Type} [Enc R] {I : σ → Env → Prop} {d : D} (r : R) (h : d = enc r) : Sim (QL (R := R) I) E (Flow.rt d ρ) (.ok (.ret r)) := ⟨⟨ρ, by rw [h]⟩⟩
theorem s_rt [Enc α] {d : D} (a : α) (h : d = enc a) : Sim QF E (Flow.rt d ρ) (.ok a) := ⟨.inl ⟨ρ, by rw [h]⟩⟩
theorem s_rt0 [Enc α] (a : α) (ρ : Env) : Sim QF E (Flow.rt (enc a) ρ) (.ok a) := ⟨.inl ⟨ρ, rfl⟩⟩
theorem s_rtR0 {R : Type} [Enc R] {I : σ → Env → Prop} (r : R) (ρ : Env) : Sim (QL (R := R) I) E (Flow.rt (enc r) ρ) (.ok (.ret r)) := ⟨⟨ρ, rfl⟩⟩
theorem s_nF [Enc α] (a : α) (h : enc a = .non) : Sim QF E (Flow.nx ρ) (.ok a) := ⟨.inr ⟨h, ρ, rfl⟩⟩
/-! loops -/
def foldT (f : α → σ → Res σ) : List α → σ → Res σ
  | [], s => .ok s
  | x :: xs, s => f x s >>= foldT f xs
def forT {R : Type} (f : α → σ → Res (Fl R σ)) : List α → σ → Res (Fl R σ)
  | [], s => .ok (.nxt s)
  | x :: xs, s => onF (f x s) (fun r => .ok (.ret r)) (forT f xs)
def whileT (c : σ → Res Bool) (f : σ → Res σ) : Nat → σ → Res σ
  | 0, _ => .bad
  | n + 1, s => c s >>= fun b => if b = true then f s >>= whileT c f n else .ok s
def whileR {R : Type} (c : σ → Res Bool) (f : σ → Res (Fl R σ)) : Nat → σ → Res (Fl R σ)
  | 0, _ => .bad
  | n + 1, s => c s >>= fun b => if b = true then onF (f s) (fun r => .ok (.ret r)) (whileR c f n) else .ok (.nxt s)
theorem q_for {mi : Env → Res (List D)} {g : D → Env → Option Env} {mb : Env → Flow} (h : Sim Q E (bindF (mi ρ) ρ fun xs => seqF (forL g mb xs ρ) k) T) : Sim Q E (seqF (mFor mi g mb ρ) k) T := by
  unfold mFor; rw [seqF_bind]; exact h
theorem foldT_sim [Enc α] {I : σ → Env → Prop} {g : D → Env → Option Env} {mb : Env → Flow} {f : α → σ → Res σ}
    (hb : ∀ x s ρ, I s ρ → Sim (QN I) E (optF (g (enc x) ρ) fun ρ1 => seqF (mb ρ1) Flow.nx) (f x s)) : ∀ (xs : List α) (s : σ) (ρ : Env), I s ρ → Sim (QN I) E (seqF (forL g mb (encs xs) ρ) Flow.nx) (foldT f xs s)
  | [], s, ρ, h => ⟨⟨ρ, rfl, h⟩⟩
  | x :: xs, s, ρ, h => by
    have h1 := hb x s ρ h
    have e : seqF (forL g mb (encs (x :: xs)) ρ) Flow.nx = seqF (optF (g (enc x) ρ) fun ρ1 => seqF (mb ρ1) Flow.nx) fun ρ2 => seqF (forL g mb (encs xs) ρ2) Flow.nx := by
      have e1 : encs (x :: xs) = enc x :: encs xs := rfl
      rw [e1, forL_c, seqF_end]
      cases g (enc x) ρ with
      | none => rfl
      | some ρ1 =>
        rw [optF_some, optF_some, seqF_end]
        congr 1; funext ρ2; rw [seqF_end]
    rw [e]
    exact q_join (by rw [seqF_end]; exact h1) fun s' ρ' h' => foldT_sim hb xs s' ρ' h'
theorem q_fold [Enc α] {I : σ → Env → Prop} {g : D → Env → Option Env} {mb : Env → Flow} {f : α → σ → Res σ} {xs : List α} {s0 : σ} {S : σ → Res γ} (h0 : I s0 ρ)
    (hb : ∀ x s ρ, I s ρ → Sim (QN I) E (optF (g (enc x) ρ) fun ρ1 => seqF (mb ρ1) Flow.nx) (f x s)) (hk : ∀ s ρ, I s ρ → Sim Q E (k ρ) (S s)) : Sim Q E (seqF (forL g mb (encs xs) ρ) k) (foldT f xs s0 >>= S) :=
  q_join (foldT_sim hb xs s0 ρ h0) hk
theorem forT_sim {R : Type} [Enc R] [Enc α] {I : σ → Env → Prop} {g : D → Env → Option Env} {mb : Env → Flow} {f : α → σ → Res (Fl R σ)}
    (hb : ∀ x s ρ, I s ρ → Sim (QL I) E (optF (g (enc x) ρ) fun ρ1 => seqF (mb ρ1) Flow.nx) (f x s)) : ∀ (xs : List α) (s : σ) (ρ : Env), I s ρ → Sim (QL I) E (seqF (forL g mb (encs xs) ρ) Flow.nx) (forT f xs s)
  | [], s, ρ, h => ⟨⟨ρ, rfl, h⟩⟩
  | x :: xs, s, ρ, h => by
    have h1 := hb x s ρ h
    have e : seqF (forL g mb (encs (x :: xs)) ρ) Flow.nx = seqF (optF (g (enc x) ρ) fun ρ1 => seqF (mb ρ1) Flow.nx) fun ρ2 => seqF (forL g mb (encs xs) ρ2) Flow.nx := by
      have e1 : encs (x :: xs) = enc x :: encs xs := rfl
      rw [e1, forL_c, seqF_end]
      cases g (enc x) ρ with
      | none => rfl
      | some ρ1 =>
        rw [optF_some, optF_some, seqF_end]
        congr 1; funext ρ2; rw [seqF_end]
    rw [e]
    exact q_joinR (by rw [seqF_end]; exact h1) (fun r ρ => ⟨⟨ρ, rfl⟩⟩) fun s' ρ' h' => forT_sim hb xs s' ρ' h'
theorem q_forR {R : Type} [Enc R] [Enc α] {I : σ → Env → Prop} {g : D → Env → Option Env} {mb : Env → Flow} {f : α → σ → Res (Fl R σ)} {xs : List α} {s0 : σ} {A : R → Res γ} {S : σ → Res γ} (h0 : I s0 ρ)
    (hb : ∀ x s ρ, I s ρ → Sim (QL I) E (optF (g (enc x) ρ) fun ρ1 => seqF (mb ρ1) Flow.nx) (f x s)) (hr : ∀ r ρ, Sim Q E (.rt (enc r) ρ) (A r)) (hk : ∀ s ρ, I s ρ → Sim Q E (k ρ) (S s)) : Sim Q E (seqF (forL g mb (encs xs) ρ) k) (onF (forT f xs s0) A S) :=
  q_joinR (forT_sim hb xs s0 ρ h0) hr hk
theorem whileT_sim {I : σ → Env → Prop} {mc : Env → Res Bool} {mb : Env → Flow} {c : σ → Res Bool} {f : σ → Res σ} (hI : ∀ s ρ, I s ρ → E ρ) (hc : ∀ s ρ, I s ρ → Le id (mc ρ) (c s))
    (hb : ∀ s ρ, I s ρ → Sim (QN I) E (seqF (mb ρ) Flow.nx) (f s)) : ∀ (n : Nat) (s : σ) (ρ : Env), I s ρ → Sim (QN I) E (seqF (whileL mc mb n ρ) Flow.nx) (whileT c f n s)
  | 0, s, ρ, h => ⟨trivial⟩
  | n + 1, s, ρ, h => by
    have e : seqF (whileL mc mb (n + 1) ρ) Flow.nx = bindF (mc ρ) ρ fun b => if b = true then seqF (mb ρ) fun ρ' => seqF (whileL mc mb n ρ') Flow.nx else .nx ρ := by
      rw [seqF_end]
      show (bindF (mc ρ) ρ fun k => match k with
        | true => match mb ρ with
          | .nx ρ' => whileL mc mb n ρ'
          | f => f
        | false => .nx ρ) = _
      congr 1; funext b
      cases b
      · rfl
      · rw [if_pos rfl]
        show (match mb ρ with
          | .nx ρ' => whileL mc mb n ρ'
          | f => f) = _
        cases mb ρ with
        | nx ρ1 =>
          show whileL mc mb n ρ1 = seqF (whileL mc mb n ρ1) Flow.nx
          rw [seqF_end]
        | _ => rfl
    rw [e]
    refine c_leaf (hc s ρ h) (hI s ρ h) fun b => ?_
    cases b
    · exact ⟨⟨ρ, rfl, h⟩⟩
    · exact q_join (hb s ρ h) fun s' ρ' h' => whileT_sim hI hc hb n s' ρ' h'
theorem q_while {I : σ → Env → Prop} {mc : Env → Res Bool} {mb : Env → Flow} {c : σ → Res Bool} {f : σ → Res σ} {n : Nat} {s0 : σ} {S : σ → Res γ} (h0 : I s0 ρ) (hI : ∀ s ρ, I s ρ → E ρ) (hc : ∀ s ρ, I s ρ → Le id (mc ρ) (c s))
    (hb : ∀ s ρ, I s ρ → Sim (QN I) E (seqF (mb ρ) Flow.nx) (f s)) (hk : ∀ s ρ, I s ρ → Sim Q E (k ρ) (S s)) : Sim Q E (seqF (whileL mc mb n ρ) k) (whileT c f n s0 >>= S) :=
  q_join (whileT_sim hI hc hb n s0 ρ h0) hk
/-! comprehensions -/
def compT (p : α → Res Bool) (f : α → Res β) : List α → Res (List β)
  | [] => .ok []
  | x :: xs => nerr (p x) >>= fun b => if b = true then nerr (f x) >>= fun d => compT p f xs >>= fun ds => .ok (d :: ds) else compT p f xs
def compS (p : α → Res Bool) (f : α → Res β) (xs : List α) : Res (List β) := if xs.length ≤ 16777216 then compT p f xs else .bad
def compM (r : Res (List D)) (xs : List D) : Res (List D) := if xs.length ≤ sizeLine then r else .bad
theorem c_comp {vs : List Nat} {mi : Env → Res (List D)} {g : D → Env → Option Env} {mt : Env → Res Bool} {me : Env → Res D} {K : List D → Flow} (h : Sim Q E (bindF (mi ρ) ρ fun xs => bindF (compM (compL g mt me (wipeE ρ vs) xs) xs) ρ K) T) : Sim Q E (bindF (mComp vs mi g mt me ρ) ρ K) T := by
  have e : bindF (mComp vs mi g mt me ρ) ρ K = bindF (mi ρ) ρ fun xs => bindF (compM (compL g mt me (wipeE ρ vs) xs) xs) ρ K := by
    rw [mComp_B, bindF_as]; rfl
  rw [e]; exact h
theorem le_compT [Enc α] [Enc β] {g : D → Env → Option Env} {mt : Env → Res Bool} {me : Env → Res D} {p : α → Res Bool} {f : α → Res β} (e1 : α → Env) (hg : ∀ x, g (enc x) ρ = some (e1 x)) (hp : ∀ x, Le id (mt (e1 x)) (p x)) (hf : ∀ x, Le enc (me (e1 x)) (f x)) : ∀ xs : List α, Le encs (compL g mt me ρ (encs xs)) (compT p f xs)
  | [] => ⟨rfl⟩
  | x :: xs => by
    have ih := le_compT e1 hg hp hf xs
    have e : compL g mt me ρ (encs (x :: xs)) = optR (g (enc x) ρ) fun ρ1 => nerr (mt ρ1) >>= fun b => if b = true then nerr (me ρ1) >>= fun d => compL g mt me ρ (encs xs) >>= fun ds => .ok (d :: ds) else compL g mt me ρ (encs xs) := compL_c ..
    rw [e, hg x, optR_some]
    show Le encs _ (nerr (p x) >>= fun b => if b = true then nerr (f x) >>= fun d => compT p f xs >>= fun ds => .ok (d :: ds) else compT p f xs)
    have h1 := hp x
    have h2 := hf x
    generalize p x = P at h1 ⊢
    generalize f x = Fx at h2 ⊢
    cases P with
    | ok b =>
      have h1 : mt (e1 x) = .ok b := h1.g
      rw [h1]
      show Le encs (if b = true then nerr (me (e1 x)) >>= fun d => compL g mt me ρ (encs xs) >>= fun ds => .ok (d :: ds) else compL g mt me ρ (encs xs)) (if b = true then nerr Fx >>= fun d => compT p f xs >>= fun ds => .ok (d :: ds) else compT p f xs)
      cases b
      · exact ih
      · rw [if_pos rfl, if_pos rfl]
        cases Fx with
        | ok y =>
          have h2 : me (e1 x) = .ok (enc y) := h2.g
          rw [h2]
          show Le encs (compL g mt me ρ (encs xs) >>= fun ds => .ok (enc y :: ds)) (compT p f xs >>= fun ds => .ok (y :: ds))
          generalize compT p f xs = C at ih ⊢
          cases C with
          | ok ys =>
            have ih : compL g mt me ρ (encs xs) = .ok (encs ys) := ih.g
            rw [ih]; exact ⟨rfl⟩
          | err z =>
            have ih : compL g mt me ρ (encs xs) = .err z := ih.g
            rw [ih]; exact ⟨rfl⟩
          | bad => exact ⟨trivial⟩
        | err z => exact ⟨trivial⟩
        | bad => exact ⟨trivial⟩
    | err z => exact ⟨trivial⟩
    | bad => exact ⟨trivial⟩
theorem le_comp [Enc α] [Enc β] {vs : List Nat} {g : D → Env → Option Env} {mt : Env → Res Bool} {me : Env → Res D} {p : α → Res Bool} {f : α → Res β} {xs : List α} (ρ0 : Env) (hw : wipeE ρ vs = ρ0) (e1 : α → Env) (hg : ∀ x, g (enc x) ρ0 = some (e1 x)) (hp : ∀ x, Le id (mt (e1 x)) (p x)) (hf : ∀ x, Le enc (me (e1 x)) (f x)) : Le encs (compM (compL g mt me (wipeE ρ vs) (encs xs)) (encs xs)) (compS p f xs) := by
  unfold compS compM
  rw [List.length_map, hw, szl]
  by_cases h : xs.length ≤ 16777216
  · rw [if_pos h, if_pos h]; exact le_compT e1 hg hp hf xs
  · rw [if_neg h, if_neg h]; exact ⟨trivial⟩
theorem compT_pure (p : α → Bool) (f : α → β) : ∀ xs : List α, compT (fun x => .ok (p x)) (fun x => .ok (f x)) xs = .ok ((xs.filter p).map f)
  | [] => rfl
  | x :: xs => by
    show (Res.ok (p x) >>= fun b => if b = true then (Res.ok (f x) >>= fun d => compT (fun x => .ok (p x)) (fun x => .ok (f x)) xs >>= fun ds => .ok (d :: ds)) else compT (fun x => .ok (p x)) (fun x => .ok (f x)) xs) = _
    rw [compT_pure p f xs, bind_ok]
    by_cases h : p x = true
    · rw [if_pos h, List.filter_cons, if_pos h]; rfl
    · rw [if_neg h, List.filter_cons, if_neg h]
theorem compS_pure (p : α → Bool) (f : α → β) (xs : List α) (h : xs.length ≤ 16777216) : compS (fun x => .ok (p x)) (fun x => .ok (f x)) xs = .ok ((xs.filter p).map f) := by
  unfold compS; rw [if_pos h, compT_pure]
theorem compT_map (f : α → β) : ∀ xs : List α, compT (fun _ => .ok true) (fun x => .ok (f x)) xs = .ok (xs.map f) := fun xs => by
  rw [compT_pure (fun _ => true) f xs, List.filter_eq_self.mpr fun _ _ => rfl]
theorem compS_map (f : α → β) (xs : List α) (h : xs.length ≤ 16777216) : compS (fun _ => .ok true) (fun x => .ok (f x)) xs = .ok (xs.map f) := by
  unfold compS; rw [if_pos h, compT_map]
theorem compT_all {p : α → Res Bool} {f : α → Res β} (P : α → Bool) (F : α → β) : ∀ xs : List α, (∀ x ∈ xs, p x = .ok (P x)) → (∀ x ∈ xs, P x = true → f x = .ok (F x)) → compT p f xs = .ok ((xs.filter P).map F)
  | [], _, _ => rfl
  | x :: xs, hp, hf => by
    show (nerr (p x) >>= fun b => if b = true then (nerr (f x) >>= fun d => compT p f xs >>= fun ds => .ok (d :: ds)) else compT p f xs) = _
    rw [compT_all P F xs (fun y hy => hp y (List.mem_cons_of_mem _ hy)) (fun y hy => hf y (List.mem_cons_of_mem _ hy)), hp x (List.mem_cons_self ..), nerr_ok, bind_ok]
    by_cases h : P x = true
    · rw [if_pos h, List.filter_cons, if_pos h, hf x (List.mem_cons_self ..) h]; rfl
    · rw [if_neg h, List.filter_cons, if_neg h]
theorem compS_all {p : α → Res Bool} {f : α → Res β} (P : α → Bool) (F : α → β) (xs : List α) (h : xs.length ≤ 16777216) (hp : ∀ x ∈ xs, p x = .ok (P x)) (hf : ∀ x ∈ xs, P x = true → f x = .ok (F x)) : compS p f xs = .ok ((xs.filter P).map F) := by
  unfold compS; rw [if_pos h, compT_all P F xs hp hf]
theorem compS_allm {f : α → Res β} (F : α → β) (xs : List α) (h : xs.length ≤ 16777216) (hf : ∀ x ∈ xs, f x = .ok (F x)) : compS (fun _ => .ok true) f xs = .ok (xs.map F) := by
  rw [compS_all (fun _ => true) F xs h (fun _ _ => rfl) (fun x hx _ => hf x hx), List.filter_eq_self.mpr fun _ _ => rfl]
/-! try -/
def tryT {γ : Type} (cs : List Nat) (c : Nat) (A B : Res γ) : Res γ := match A with
  | .err x => if x.cl ∈ cs then (if x.cl = c then nerr B else .err x) else .bad
  | r => r
theorem q_try {E' : Env → Prop} {cs : List Nat} {c : Nat} {m m2 : Env → Flow} {A B : Res γ} (hQ : ∀ g x ρ, ¬ Q g (.er x ρ)) (hQb : ∀ g, ¬ Q g .bad) (hA : Sim Q E' (seqF (m ρ) Flow.nx) A) (hB : ∀ ρ', E' ρ' → Sim Q tt (seqF (m2 ρ') Flow.nx) B) (hE : ∀ ρ', E' ρ' → E ρ') : Sim Q E (seqF (mTry cs c m m2 ρ) Flow.nx) (tryT cs c A B) := by
  rw [seqF_end] at hA ⊢
  have hA := hA.run
  refine ⟨?_⟩
  unfold mTry tryT
  cases A with
  | ok g =>
    have hA : Q g (m ρ) := hA
    cases q : m ρ with
    | er x ρ' => rw [q] at hA; exact absurd hA (hQ g x ρ')
    | nx ρ' => rw [q] at hA; exact hA
    | rt d ρ' => rw [q] at hA; exact hA
    | bad => rw [q] at hA; exact absurd hA (hQb g)
  | err x =>
    obtain ⟨ρ', q, hE'⟩ := hA
    rw [q]
    show SimD Q E (if x.cl ∈ cs then (if x.cl = c then nerrF (m2 ρ') else .er x ρ') else .bad) (if x.cl ∈ cs then (if x.cl = c then nerr B else .err x) else .bad)
    by_cases h1 : x.cl ∈ cs
    · rw [if_pos h1, if_pos h1]
      by_cases h2 : x.cl = c
      · rw [if_pos h2, if_pos h2]
        have hB := hB ρ' hE'
        rw [seqF_end] at hB
        have hB := hB.run
        cases B with
        | ok g =>
          have hB : Q g (m2 ρ') := hB
          show Q g (nerrF (m2 ρ'))
          cases q2 : m2 ρ' with
          | er x ρ' => rw [q2] at hB; exact absurd hB (hQ g x ρ')
          | nx ρ' => rw [q2] at hB; exact hB
          | rt d ρ' => rw [q2] at hB; exact hB
          | bad => rw [q2] at hB; exact absurd hB (hQb g)
        | err y => trivial
        | bad => trivial
      · rw [if_neg h2, if_neg h2]; exact ⟨ρ', rfl, hE ρ' hE'⟩
    · rw [if_neg h1, if_neg h1]; trivial
  | bad => trivial
theorem hq_n {I : σ → Env → Prop} : ∀ g x ρ, ¬ QN I g (.er x ρ) := fun g x ρ ⟨_, h, _⟩ => by cases h
theorem hq_nb {I : σ → Env → Prop} : ∀ g, ¬ QN I g .bad := fun g ⟨_, h, _⟩ => by cases h
theorem hq_l {R : Type} [Enc R] {I : σ → Env → Prop} : ∀ (g : Fl R σ) x ρ, ¬ QL I g (.er x ρ) := fun g x ρ h => by
  cases g with
  | ret r => obtain ⟨_, h⟩ := h; cases h
  | nxt s => obtain ⟨_, h, _⟩ := h; cases h
theorem hq_lb {R : Type} [Enc R] {I : σ → Env → Prop} : ∀ (g : Fl R σ), ¬ QL I g .bad := fun g h => by
  cases g with
  | ret r => obtain ⟨_, h⟩ := h; cases h
  | nxt s => obtain ⟨_, h, _⟩ := h; cases h
/-! defs -/
theorem le_fn [Enc α] {l : Nat} {b : Env → Flow} {ds : List D} {t : Res α} (ρ : Env) (e : startE l ds = ρ) (h : Sim QF tt (seqF (b ρ) Flow.nx) t) : Le enc (runD l b ds) t := by
  rw [seqF_end] at h
  have h := h.run
  rw [runD_B, e]
  refine ⟨?_⟩
  cases t with
  | ok a =>
    rcases h with ⟨ρ', h⟩ | ⟨h0, ρ', h⟩
    · rw [h]; rfl
    · rw [h]
      show Res.ok D.non = .ok (enc a)
      rw [h0]
  | err x =>
    obtain ⟨ρ', h, _⟩ := h
    rw [h]; rfl
  | bad => trivial
theorem le_in {l c : Nat} {b : Env → Flow} {ds : List D} {fs : α → List D} {t : Res α} (ρ : Env) (e : startI l c ds = ρ) (h : Sim (QI c fs) tt (seqF (b ρ) Flow.nx) t) : Le fs (runI l c b ds) t := by
  rw [seqF_end] at h
  have h := h.run
  rw [runI_B, e]
  refine ⟨?_⟩
  cases t with
  | ok a =>
    obtain ⟨ρ', h, h2⟩ := h
    rw [h]; exact h2
  | err x =>
    obtain ⟨ρ', h, _⟩ := h
    rw [h]; rfl
  | bad => trivial
theorem s_in {c : Nat} {fs : α → List D} {ff : List (Str × Fd)} {l : Env} (a : α) (h : ff.map (·.1) = flds c) (h2 : ff.map (fun p => fdD p.2) = fs a) : Sim (QI c fs) E (Flow.nx (.oo c ff :: l)) (.ok a) := by
  refine ⟨⟨_, rfl, ?_⟩⟩
  show (if c = c ∧ ff.map (·.1) = flds c then Res.ok (ff.map fun p => fdD p.2) else .bad) = _
  rw [if_pos ⟨rfl, h⟩, h2]
/-- a slot of which nothing is known but that it may be stored -/
def fre (s : Sl) : Prop := okS [s] 0 = true
theorem fre_v (x : Fd) : fre (.v x) := rfl
theorem fre_no : fre .no := rfl
theorem ok_fre {ρ : Env} {i : Nat} {s : Sl} (h : ρ[i]? = some s) (f : fre s) : okS ρ i = true := by
  unfold okS; rw [h]; exact f
theorem g_n {i : Nat} {d : D} {ρ ρ' : Env} (h : okS ρ i = true) (e : ρ.set i (.v (.d d)) = ρ') : gN i d ρ = some ρ' := by
  unfold gN; rw [if_pos h, e]
theorem g_q {gs : List D → Env → Option Env} {ds : List D} {d : D} {ρ ρ' : Env} (hd : d = .tup ds) (h : gs ds ρ = some ρ') : gQ gs d ρ = some ρ' := by rw [hd]; exact h
theorem g_ql {gs : List D → Env → Option Env} {ds : List D} {d : D} {ρ ρ' : Env} (hd : d = .lst ds) (h : gs ds ρ = some ρ') : gQ gs d ρ = some ρ' := by rw [hd]; exact h
theorem g_s {g : D → Env → Option Env} {gs : List D → Env → Option Env} {d : D} {ds : List D} {ρ ρ1 ρ' : Env} (h : g d ρ = some ρ1) (h' : gs ds ρ1 = some ρ') : gSc g gs (d :: ds) ρ = some ρ' := by
  show (match g d ρ with
    | some ρ1 => gs ds ρ1
    | none => none) = _
  rw [h]; exact h'
theorem g_0 {ρ : Env} : gS0 [] ρ = some ρ := rfl
end
end Cr
/-! Tl, part 3: typed operations. -/
namespace Cr
open PySem L2
section
variable {α β : Type} [Enc α] [Enc β]
def idxT {α : Type} (xs : List α) (i : Int) : Res α := opt (atI xs i)
theorem atI_mp {α β : Type} (f : α → β) (xs : List α) (i : Int) : atI (xs.map f) i = (atI xs i).map f := by
  unfold L2.atI
  rw [List.length_map]
  cases ixN xs.length i with
  | none => rfl
  | some j => simp
theorem le_opt {δ : Type} {e : α → δ} (o : Option α) : Le e (opt (o.map e)) (opt o) := by
  cases o
  · exact ⟨trivial⟩
  · exact ⟨rfl⟩
theorem le_idx (xs : List α) (i : Int) : Le enc (idxD (enc xs) (enc i)) (idxT xs i) := by
  show Le enc (opt (atI (xs.map Enc.en) i)) (opt (atI xs i))
  rw [atI_mp]; exact le_opt _
theorem le_idxt (xs : TL α) (i : Int) : Le enc (idxD (enc xs) (enc i)) (idxT xs.l i) := by
  show Le enc (opt (atI (xs.l.map Enc.en) i)) (opt (atI xs.l i))
  rw [atI_mp]; exact le_opt _
theorem le_idxs (xs : Scr) (i : Int) : Le enc (idxD (enc xs) (enc i)) (idxT xs.l i) := by
  show Le enc (opt ((atI xs.l i).map D.int)) (opt (atI xs.l i))
  exact le_opt _
def mulT (a b : Int) : Res Int := if mulOk a b then .ok (a * b) else .bad
def fdivT (a b : Int) : Res Int := if divOk a b then .ok (a / b) else .bad
def modT (a b : Int) : Res Int := if 0 < b then .ok (a % b) else .bad
def powT (a b : Int) : Res Int := if powOk a b then .ok (a ^ b.toNat) else .bad
def shlT (a b : Int) : Res Int := if powOk a b then .ok (a * 2 ^ b.toNat) else .bad
def shrT (a b : Int) : Res Int := if 0 ≤ b then .ok (a / 2 ^ b.toNat) else .bad
theorem le_ite {δ : Type} {e : α → δ} {c : Prop} [Decidable c] {a : α} {d : δ} (h : d = e a) : Le e (if c then Res.ok d else .bad) (if c then Res.ok a else .bad) := by
  by_cases hc : c
  · rw [if_pos hc, if_pos hc]; exact ⟨congrArg _ h⟩
  · rw [if_neg hc, if_neg hc]; exact ⟨trivial⟩
theorem le_ite' {δ : Type} {e : α → δ} {c c' : Prop} [Decidable c] [Decidable c'] {a : α} {d : δ} (hc : c ↔ c') (h : d = e a) : Le e (if c then Res.ok d else .bad) (if c' then Res.ok a else .bad) := by
  by_cases q : c
  · rw [if_pos q, if_pos (hc.mp q)]; exact ⟨congrArg _ h⟩
  · rw [if_neg q, if_neg fun z => q (hc.mpr z)]; exact ⟨trivial⟩
theorem le_mul (a b : Int) : Le enc (mulD (enc a) (enc b)) (mulT a b) := le_ite rfl
theorem le_fdiv (a b : Int) : Le enc (fdivD (enc a) (enc b)) (fdivT a b) := le_ite rfl
theorem le_mod (a b : Int) : Le enc (modD (enc a) (enc b)) (modT a b) := le_ite rfl
theorem le_pow (a b : Int) : Le enc (powD (enc a) (enc b)) (powT a b) := le_ite rfl
theorem le_shl (a b : Int) : Le enc (shlD (enc a) (enc b)) (shlT a b) := le_ite rfl
theorem le_shr (a b : Int) : Le enc (shrD (enc a) (enc b)) (shrT a b) := le_ite rfl
def bitsI (i : Int) : Int := (Builtin.Int.intBits i : Nat)
/-! with a constant on one side -/
theorem k_mulr (a b : Int) (h : decide (-18446744073709551616 < b ∧ b < 18446744073709551616) = true) : mulD (enc a) (enc b) = .ok (enc (a * b)) := mulD_r a b (of_decide_eq_true h)
theorem k_mull (a b : Int) (h : decide (-18446744073709551616 < a ∧ a < 18446744073709551616) = true) : mulD (enc a) (enc b) = .ok (enc (a * b)) := mulD_l a b (of_decide_eq_true h)
theorem k_mod (a b : Int) (h : decide (0 < b) = true) : modD (enc a) (enc b) = .ok (enc (a % b)) := modD_p a b (of_decide_eq_true h)
theorem k_fdiv (a b : Int) (h : decide (0 < b ∧ b < 18446744073709551616) = true) : fdivD (enc a) (enc b) = .ok (enc (a / b)) := fdivD_p a b (of_decide_eq_true h)
theorem k_pow (a b c : Int) (h : decide ((0 ≤ b ∧ b ≤ 1000000) ∧ a.natAbs < 18446744073709551616) = true) (hc : a ^ b.toNat = c) : powD (enc a) (enc b) = .ok (enc c) := by
  have h := of_decide_eq_true h
  rw [← hc]; exact powD_p a b h.1 h.2
/-! ranges -/
def rangeI (lo c : Int) (n : Nat) : List Int := (List.range n).map fun (i : Nat) => lo + (i : Int) * c
theorem rangeI_enc (lo c : Int) (n : Nat) : rangeD lo c n = encs (rangeI lo c n) := by
  unfold rangeD rangeI encs
  rw [List.map_map]; rfl
def rngT (n : Int) : Res (List Int) := if -(2 ^ 62) ≤ n ∧ n < 2 ^ 62 then .ok (rangeI 0 1 n.toNat) else .bad
def rng2T (lo hi : Int) : Res (List Int) := if -(2 ^ 62) ≤ lo ∧ lo < 2 ^ 62 ∧ -(2 ^ 62) ≤ hi ∧ hi < 2 ^ 62 then .ok (rangeI lo 1 (hi - lo).toNat) else .bad
def rng3T (lo hi c : Int) : Res (List Int) := if c = -1 ∧ -(2 ^ 62) ≤ lo ∧ lo < 2 ^ 62 ∧ -(2 ^ 62) ≤ hi ∧ hi < 2 ^ 62 then .ok (rangeI lo (-1) (lo - hi).toNat) else .bad
theorem le_rng (n : Int) : Le encs (rng1 [enc n]) (rngT n) := le_ite (rangeI_enc ..)
theorem le_rng2 (lo hi : Int) : Le encs (rng2 [enc lo, enc hi]) (rng2T lo hi) := le_ite (rangeI_enc ..)
theorem le_rng3 (lo hi c : Int) : Le encs (rng3 [enc lo, enc hi, enc c]) (rng3T lo hi c) := le_ite (rangeI_enc ..)
/-! lists -/
def appT {α : Type} (xs : List α) (x : α) : Res (List α) := if xs.length < 16777216 then .ok (xs ++ [x]) else .bad
theorem le_app (xs : List α) (x : α) (d : D) (h : d = enc x) : Le encs (appG (encs xs) [d]) (appT xs x) := by
  subst h
  show Le encs (if (encs xs).length < sizeLine then Res.ok (encs xs ++ [enc x]) else .bad) _
  rw [List.length_map, szl]
  exact le_ite (by simp)
def insT {α : Type} (xs : List α) (i : Int) (x : α) : Res (List α) := if xs.length < 16777216 ∧ 0 ≤ i ∧ i < 2 ^ 63 then .ok (xs.take i.toNat ++ [x] ++ xs.drop i.toNat) else .bad
theorem le_ins (xs : List α) (i : Int) (x : α) (d : D) (h : d = enc x) : Le encs (insG (encs xs) [enc i, d]) (insT xs i x) := by
  subst h
  show Le encs (if (encs xs).length < sizeLine ∧ 0 ≤ i ∧ i < 2 ^ 63 then Res.ok ((encs xs).take i.toNat ++ [enc x] ++ (encs xs).drop i.toNat) else .bad) _
  rw [List.length_map, szl]
  exact le_ite (by simp)
def extT {α : Type} (xs ys : List α) : Res (List α) := if xs.length + ys.length ≤ 16777216 then .ok (xs ++ ys) else .bad
theorem le_ext (xs ys : List α) (d : D) (h : d = enc ys) : Le encs (extG (encs xs) [d]) (extT xs ys) := by
  subst h
  show Le encs (if (encs xs).length + (ys.map Enc.en).length ≤ sizeLine then Res.ok (encs xs ++ ys.map Enc.en) else .bad) _
  rw [List.length_map, List.length_map, szl]
  exact le_ite (by simp)
theorem le_addL (xs ys : List α) (d d' : D) (h : d = enc xs) (h' : d' = enc ys) : Le encs (addL d d') (extT xs ys) := by
  subst h h'
  show Le encs (if (xs.map Enc.en).length + (ys.map Enc.en).length ≤ sizeLine then Res.ok (xs.map Enc.en ++ ys.map Enc.en) else .bad) _
  rw [List.length_map, List.length_map, szl]
  exact le_ite (by simp)
theorem le_addD (xs ys : List α) (d d' : D) (h : d = enc xs) (h' : d' = enc ys) : Le enc (addD d d') (extT xs ys) := by
  subst h h'
  show Le enc (if (xs.map Enc.en).length + (ys.map Enc.en).length ≤ sizeLine then Res.ok (D.lst (xs.map Enc.en ++ ys.map Enc.en)) else .bad) _
  rw [List.length_map, List.length_map, szl]
  exact le_ite (by show _ = D.lst _; simp)
def extTT {α : Type} (xs ys : TL α) : Res (TL α) := if xs.l ≠ [] ∧ ys.l ≠ [] ∧ xs.l.length + ys.l.length ≤ 16777216 then .ok ⟨xs.l ++ ys.l⟩ else .bad
theorem le_addT (xs ys : TL α) (d d' : D) (h : d = enc xs) (h' : d' = enc ys) : Le enc (addD d d') (extTT xs ys) := by
  subst h h'
  have e : addD (enc xs) (enc ys) = if xs.l.map Enc.en ≠ [] ∧ ys.l.map Enc.en ≠ [] ∧ (xs.l.map Enc.en).length + (ys.l.map Enc.en).length ≤ sizeLine then .ok (.tup (xs.l.map (Enc.en (α := α)) ++ ys.l.map Enc.en)) else .bad := rfl
  rw [e, List.length_map, List.length_map, szl]
  unfold extTT
  have n : ∀ zs : List α, zs.map (Enc.en (α := α)) ≠ [] ↔ zs ≠ [] := fun zs => by cases zs <;> simp
  exact le_ite' (by rw [n, n]) (by show _ = D.tup _; simp)
def setT {α : Type} (xs : List α) (i : Int) (x : α) : Res (List α) := match ixN xs.length i with
  | some j => .ok (xs.set j x)
  | none => .bad
theorem le_set (xs : List α) (i : Int) (x : α) (d : D) (h : d = enc x) : Le encs (setG (encs xs) (enc i) d) (setT xs i x) := by
  subst h
  show Le encs (match ixN (encs xs).length i with
    | some j => Res.ok ((encs xs).set j (enc x))
    | none => .bad) _
  rw [List.length_map]
  unfold setT
  cases ixN xs.length i with
  | none => exact ⟨trivial⟩
  | some j => exact ⟨by show _ = _; simp [encs]⟩
def repT {α : Type} (xs : List α) (k : Int) : Res (List α) := if -(2 ^ 63) ≤ k ∧ k < 2 ^ 63 ∧ xs.length * k.toNat ≤ 16777216 then .ok (List.replicate k.toNat xs).flatten else .bad
theorem le_rep (xs : List α) (k : Int) (d : D) (h : d = enc xs) : Le enc (mulD d (enc k)) (repT xs k) := by
  subst h
  have e : mulD (enc xs) (enc k) = if -(2 ^ 63) ≤ k ∧ k < 2 ^ 63 ∧ (xs.map Enc.en).length * k.toNat ≤ sizeLine then .ok (.lst (List.replicate k.toNat (xs.map (Enc.en (α := α)))).flatten) else .bad := rfl
  rw [e, List.length_map, szl]
  exact le_ite (by show _ = D.lst _; simp [List.map_flatten])
theorem cutG_map {α β : Type} (f : α → β) (xs : List α) (lo hi : Option Int) : cutG (xs.map f) lo hi = (cutG xs lo hi).map f := by
  unfold cutG
  simp
theorem k_cutL (xs : List α) (lo hi : Option Int) : cutL (enc xs) lo hi = .ok (encs (cutG xs lo hi)) := by
  show Res.ok (cutG (xs.map Enc.en) lo hi) = _
  rw [cutG_map]
theorem k_cutD (xs : List α) (lo hi : Option Int) : cutD (enc xs) lo hi = .ok (enc (cutG xs lo hi)) := by
  show Res.ok (D.lst (cutG (xs.map Enc.en) lo hi)) = _
  rw [cutG_map]; rfl
def cutTT {α : Type} (xs : TL α) (lo hi : Option Int) : Res (TL α) := if ¬ (HT.sIx xs.l.length 0 lo = 0 ∧ HT.sIx xs.l.length xs.l.length hi = xs.l.length) then .ok ⟨cutG xs.l lo hi⟩ else .bad
theorem le_cutT (xs : TL α) (lo hi : Option Int) : Le enc (cutD (enc xs) lo hi) (cutTT xs lo hi) := by
  have e : cutD (enc xs) lo hi = if ¬ (HT.sIx (xs.l.map (Enc.en (α := α))).length 0 lo = 0 ∧ HT.sIx (xs.l.map (Enc.en (α := α))).length (xs.l.map (Enc.en (α := α))).length hi = (xs.l.map (Enc.en (α := α))).length) then .ok (.tup (cutG (xs.l.map Enc.en) lo hi)) else .bad := rfl
  rw [e, List.length_map, cutG_map]
  exact le_ite rfl
theorem k_rev (xs : List α) : revL (enc xs) = .ok (encs xs.reverse) := by
  show Res.ok (xs.map Enc.en).reverse = _
  simp
theorem k_len (xs : List α) : lenD [enc xs] = .ok (enc (xs.length : Int)) := by
  show Res.ok (D.int ((xs.map Enc.en).length : Nat)) = _
  rw [List.length_map]; rfl
theorem k_lent (xs : TL α) : lenD [enc xs] = .ok (enc (xs.l.length : Int)) := by
  show Res.ok (D.int ((xs.l.map Enc.en).length : Nat)) = _
  rw [List.length_map]; rfl
theorem k_lens (xs : Scr) : lenD [enc xs] = .ok (enc (xs.l.length : Int)) := rfl
theorem k_tup (xs : List α) : tupD [enc xs] = .ok (enc (TL.mk xs)) := rfl
theorem k_tupt (xs : TL α) : tupD [enc xs] = .ok (enc xs) := rfl
theorem k_list (xs : List α) : listD [enc xs] = .ok (encs xs) := rfl
theorem k_listt (xs : TL α) : listD [enc xs] = .ok (encs xs.l) := rfl
theorem k_seq (xs : List α) : seqOf (enc xs) = .ok (encs xs) := rfl
theorem k_seqt (xs : TL α) : seqOf (enc xs) = .ok (encs xs.l) := rfl
theorem k_lstOf (xs : List α) : lstOf (enc xs) = .ok (encs xs) := rfl
omit [Enc α] [Enc β] in
theorem ints_enc : ∀ xs : List Int, intsOf (xs.map Enc.en) = some xs
  | [] => rfl
  | x :: xs => by
    show (intsOf (xs.map Enc.en)).map (x :: ·) = _
    rw [ints_enc xs]; rfl
omit [Enc α] [Enc β] in
theorem bools_enc : ∀ xs : List Bool, boolsOf (xs.map Enc.en) = some xs
  | [] => rfl
  | x :: xs => by
    show (boolsOf (xs.map Enc.en)).map (x :: ·) = _
    rw [bools_enc xs]; rfl
theorem k_sum (xs : List Int) : sumD [enc xs] = .ok (enc xs.sum) := by
  show (opt (intsOf (xs.map Enc.en)) >>= fun ns => Res.ok (D.int ns.sum)) = _
  rw [ints_enc]; rfl
theorem k_all (xs : List Bool) : allD [enc xs] = .ok (enc (xs.all id)) := by
  show (opt (boolsOf (xs.map Enc.en)) >>= fun ns => Res.ok (D.bl (ns.all id))) = _
  rw [bools_enc]; rfl
theorem k_any (xs : List Bool) : anyD [enc xs] = .ok (enc (xs.any id)) := by
  show (opt (boolsOf (xs.map Enc.en)) >>= fun ns => Res.ok (D.bl (ns.any id))) = _
  rw [bools_enc]; rfl
def maxT (xs : List Int) : Res Int := if 0 < xs.length then .ok (listMax xs) else .bad
def minT (xs : List Int) : Res Int := if 0 < xs.length then .ok (listMin xs) else .bad
theorem le_max (xs : List Int) : Le enc (maxD [enc xs]) (maxT xs) := by
  show Le enc (opt (intsOf (xs.map Enc.en)) >>= fun ns => if 0 < ns.length then Res.ok (D.int (listMax ns)) else .bad) _
  rw [ints_enc]
  exact le_ite rfl
theorem le_min (xs : List Int) : Le enc (minD [enc xs]) (minT xs) := by
  show Le enc (opt (intsOf (xs.map Enc.en)) >>= fun ns => if 0 < ns.length then Res.ok (D.int (listMin ns)) else .bad) _
  rw [ints_enc]
  exact le_ite rfl
omit [Enc α] [Enc β] in
theorem zipT_enc [Enc α] [Enc β] : ∀ (xs : List α) (ys : List β), zipD (encs xs) (encs ys) = encs (List.zipWith T2.mk xs ys)
  | [], ys => by simp [zipD, encs]
  | x :: xs, [] => rfl
  | x :: xs, y :: ys => by
    show D.tup [enc x, enc y] :: zipD (encs xs) (encs ys) = _
    rw [zipT_enc xs ys]; rfl
theorem k_zip (xs : List α) (ys : List β) : zipL [enc xs, enc ys] = .ok (encs (List.zipWith T2.mk xs ys)) := congrArg _ (zipT_enc xs ys)
theorem k_neg (a : Int) : negD (enc a) = .ok (enc (-a)) := rfl
theorem k_intb (b : Bool) : intD [enc b] = .ok (enc (if b = true then (1 : Int) else 0)) := rfl
/-! comparing -/
class NonN (α : Type) [Enc α] : Prop where
  ne : ∀ a : α, enc a ≠ .non
instance : NonN Int := ⟨fun _ h => by cases h⟩
instance : NonN Bool := ⟨fun _ h => by cases h⟩
instance : NonN Str := ⟨fun _ h => by cases h⟩
instance : NonN (List α) := ⟨fun _ h => by cases h⟩
instance : NonN (TL α) := ⟨fun _ h => by cases h⟩
instance {A : Type} [Enc A] : NonN (T1 A) := ⟨fun _ h => by cases h⟩
instance {A B : Type} [Enc A] [Enc B] : NonN (T2 A B) := ⟨fun _ h => by cases h⟩
instance {A B C : Type} [Enc A] [Enc B] [Enc C] : NonN (T3 A B C) := ⟨fun _ h => by cases h⟩
theorem isNon_ne (d : D) (h : d ≠ .non) : isNonD d .non = .ok (.bl false) := by
  cases d <;> first | rfl | exact absurd rfl h
theorem k_isnon [NonN α] (o : Option α) : isNonD (enc o) .non = .ok (enc o.isNone) := by
  cases o with
  | none => rfl
  | some a => exact isNon_ne _ (NonN.ne a)
theorem k_isnot [NonN α] (o : Option α) : notNonD (enc o) .non = .ok (enc (!o.isNone)) := by
  cases o with
  | none => rfl
  | some a =>
    have : ∀ d : D, d ≠ .non → notNonD d .non = .ok (.bl true) := fun d h => by cases d <;> first | rfl | exact absurd rfl h
    exact this _ (NonN.ne a)
theorem k_isnon0 [NonN α] (a : α) : isNonD (enc a) .non = .ok (enc false) := isNon_ne _ (NonN.ne a)
theorem k_isnot0 [NonN α] (a : α) : notNonD (enc a) .non = .ok (enc true) := by
  have : ∀ d : D, d ≠ .non → notNonD d .non = .ok (.bl true) := fun d h => by cases d <;> first | rfl | exact absurd rfl h
  exact this _ (NonN.ne a)
def unT {α : Type} : Option α → Res α
  | some a => .ok a
  | none => .bad
theorem le_un {o : Option α} : Le enc (.ok (enc o)) (unT o) := by
  cases o
  · exact ⟨trivial⟩
  · exact ⟨rfl⟩
class EqT (α : Type) [Enc α] [DecidableEq α] : Prop where
  eq : ∀ a b : α, eqB (enc a) (enc b) = .ok (decide (a = b))
instance : EqT Int := ⟨fun _ _ => rfl⟩
instance : EqT Str := ⟨fun _ _ => rfl⟩
instance : EqT Bool := ⟨fun _ _ => rfl⟩
theorem k_eq [DecidableEq α] [EqT α] (a b : α) : eqD (enc a) (enc b) = .ok (enc (decide (a = b))) := by
  unfold eqD; rw [EqT.eq]; rfl
theorem k_ne [DecidableEq α] [EqT α] (a b : α) : neD (enc a) (enc b) = .ok (enc (!decide (a = b))) := by
  unfold neD; rw [EqT.eq]; rfl
/-! membership of ints and strs -/
class InT (α : Type) [Enc α] [DecidableEq α] : Prop where
  fl : ∃ f : α → V, (∀ a : α, flatD (enc a) = some (f a)) ∧ ∀ a b, eqV (f b) (f a) = decide (a = b)
theorem inV_dec {f : α → V} [DecidableEq α] (h : ∀ a b, eqV (f b) (f a) = decide (a = b)) (a : α) : ∀ xs : List α, inV (f a) (xs.map f) = decide (a ∈ xs)
  | [] => rfl
  | x :: xs => by
    have ih := inV_dec h a xs
    show ((x :: xs).map f).any (fun y => eqV y (f a)) = _
    have ih : (xs.map f).any (fun y => eqV y (f a)) = decide (a ∈ xs) := ih
    rw [List.map_cons, List.any_cons, ih, h a x]
    by_cases q : a = x <;> by_cases q' : a ∈ xs <;> simp [q, q']
theorem flats_map {f : α → V} (h : ∀ a : α, flatD (enc a) = some (f a)) : ∀ xs : List α, flats (xs.map Enc.en) = some (xs.map f)
  | [] => rfl
  | x :: xs => by
    show (match flatD (enc x), flats (xs.map Enc.en) with
      | some v, some vs => some (v :: vs)
      | _, _ => none) = _
    rw [h x, flats_map h xs]; rfl
instance : InT Int := ⟨V.int, fun _ => rfl, fun a b => by
  by_cases h : a = b
  · subst h; rw [decide_eq_true rfl]; exact beq_self_eq_true a
  · rw [decide_eq_false h]; exact beq_eq_false_iff_ne.mpr fun z => h z.symm⟩
instance : InT Str := ⟨V.str, fun _ => rfl, fun a b => by
  by_cases h : a = b
  · subst h; rw [decide_eq_true rfl]; exact beq_self_eq_true a
  · rw [decide_eq_false h]; exact beq_eq_false_iff_ne.mpr fun z => h z.symm⟩
theorem k_in [DecidableEq α] [InT α] (a : α) (xs : List α) : inD (enc a) (enc xs) = .ok (enc (decide (a ∈ xs))) := by
  obtain ⟨f, h1, h2⟩ := InT.fl (α := α)
  have e : inB (enc a) (enc xs) = match flatD (enc a), flats (xs.map Enc.en) with
    | some v, some vs => .ok (inV v vs)
    | _, _ => .bad := by show inB (enc a) (.lst _) = _; unfold inB; rfl
  unfold inD
  rw [e, h1, flats_map h1]
  show Res.ok (D.bl (inV (f a) (xs.map f))) = _
  rw [inV_dec h2]; rfl
theorem k_int [DecidableEq α] [InT α] (a : α) (xs : TL α) : inD (enc a) (enc xs) = .ok (enc (decide (a ∈ xs.l))) := by
  obtain ⟨f, h1, h2⟩ := InT.fl (α := α)
  have e : inB (enc a) (enc xs) = match flatD (enc a), flats (xs.l.map Enc.en) with
    | some v, some vs => .ok (inV v vs)
    | _, _ => .bad := by show inB (enc a) (.tup _) = _; unfold inB; rfl
  unfold inD
  rw [e, h1, flats_map h1]
  show Res.ok (D.bl (inV (f a) (xs.l.map f))) = _
  rw [inV_dec h2]; rfl
theorem nin_of {x y : D} {b : Bool} (h : inD x y = .ok (.bl b)) : ninD x y = .ok (enc (!b)) := by
  unfold inD at h
  unfold ninD
  cases q : inB x y with
  | ok k => rw [q] at h; cases h; rfl
  | err z => rw [q] at h; cases h
  | bad => rw [q] at h; cases h
theorem k_nin [DecidableEq α] [InT α] (a : α) (xs : List α) : ninD (enc a) (enc xs) = .ok (enc (!decide (a ∈ xs))) := nin_of (k_in a xs)
theorem k_nint [DecidableEq α] [InT α] (a : α) (xs : TL α) : ninD (enc a) (enc xs) = .ok (enc (!decide (a ∈ xs.l))) := nin_of (k_int a xs)
end
end Cr
namespace Cr
open PySem L2
section
variable {γ : Type} {Q : γ → Flow → Prop} {E : Env → Prop} {ρ ρ' : Env} {T : Res γ} {α β σ : Type} {k : Env → Flow}
abbrev letT {α γ : Type} (v : α) (F : α → Res γ) : Res γ := F v
theorem c_okL {r : Res D} {K : D → Flow} [Enc α] (v : α) {F : α → Res γ} (h : r = .ok (enc v)) (k : ∀ x, Sim Q E (K (enc x)) (F x)) : Sim Q E (bindF r ρ K) (letT v F) := by
  rw [h]; exact k v
theorem c_okU {r : Res D} {K : D → Flow} [Enc α] {o : Option α} {S : α → Res γ} (h : r = .ok (enc o)) (k : ∀ x, Sim Q E (K (enc x)) (S x)) : Sim Q E (bindF r ρ K) (unT o >>= S) := by
  rw [h]
  cases o with
  | none => exact ⟨trivial⟩
  | some a => exact k a
theorem le_unr [Enc α] {r : Res D} {t : Res (Option α)} (h : Le enc r t) : Le enc r (t >>= unT) := by
  cases t with
  | ok o =>
    have h : r = .ok (enc o) := h.g
    rw [h]
    cases o with
    | none => exact ⟨trivial⟩
    | some a => exact ⟨rfl⟩
  | err x => exact ⟨h.g⟩
  | bad => exact ⟨trivial⟩
theorem p_andM {a b : Bool} {r : Res Bool} (h : r = .ok b) : andM a r = .ok (a && b) := by
  subst h; cases a <;> rfl
theorem p_orM {a b : Bool} {r : Res Bool} (h : r = .ok b) : orM a r = .ok (a || b) := by
  subst h; cases a <;> rfl
theorem p_andMV {a b : Bool} {r : Res D} (h : r = .ok (enc b)) : andMV a r = .ok (enc (a && b)) := by
  subst h; cases a <;> rfl
theorem p_orMV {a b : Bool} {r : Res D} (h : r = .ok (enc b)) : orMV a r = .ok (enc (a || b)) := by
  subst h; cases a <;> rfl
/-- a slot that may be empty -/
def mbS {α : Type} [Enc α] : Option α → Sl
  | none => .no
  | some a => .v (.d (enc a))
def mbL {α : Type} [Enc α] : Option (List α) → Sl
  | none => .no
  | some a => .v (.ol (encs a))
theorem fre_mb [Enc α] (o : Option α) : fre (mbS o) := by cases o <;> rfl
theorem fre_mbL [Enc α] (o : Option (List α)) : fre (mbL o) := by cases o <;> rfl
theorem le_mb [Enc α] {o : Option α} {i : Nat} (h : ρ[i]? = some (mbS o)) : Le enc (mVar i ρ) (unT o) := by
  cases o with
  | none => exact ⟨trivial⟩
  | some a => exact ⟨by show mVar i ρ = .ok (enc a); unfold mVar; rw [h]; rfl⟩
theorem q_frzm [Enc α] {o : Option (List α)} {i : Nat} {m : Env → Flow} {S : List α → Res γ} (h : ρ[i]? = some (mbL o)) (hk : ∀ a, Sim Q E (seqF (m (ρ.set i (.v (.d (enc a))))) k) (S a)) : Sim Q E (seqF (mFrz i m ρ) k) (unT o >>= S) := by
  cases o with
  | none => exact ⟨trivial⟩
  | some a =>
    unfold mFrz frzE
    rw [h]
    exact hk a
def likeR (r : Res D) : Res Bool := r >>= tru
theorem le_like {r : Res D} : Le enc r (likeR r) := by
  cases r with
  | ok d =>
    cases d <;> first | exact ⟨rfl⟩ | exact ⟨trivial⟩
  | err x => exact ⟨rfl⟩
  | bad => exact ⟨trivial⟩
/-! a mirror whose end is spoken of -/
theorem fin_of {r : Res D} {t : Res Bool} (h : Le enc r t) (ht : t = .ok true) : r = .ok (.bl true) := le_of_ok h ht
end
end Cr
/-! Tl, part 4: equality of nested data. -/
namespace Cr
open PySem L2
class PyT (α : Type) [Enc α] [DecidableEq α] where
  py : α → PyData
  h : ∀ a : α, toPy (enc a) = some (py a)
  dep : Nat
  hd : ∀ a : α, (py a).depth ≤ dep
  ok : α → Bool
  hok : ∀ a : α, (py a).canLay0 = ok a
  inj : ∀ a b : α, PyData.eqv (py a) (py b) = decide (a = b)
instance : PyT Int where
  py := .int
  h _ := rfl
  dep := 0
  hd _ := Nat.le_refl 0
  ok _ := true
  hok _ := by unfold PyData.canLay0; rfl
  inj a b := by unfold PyData.eqv; by_cases h : a = b <;> simp [h]
instance : PyT Bool where
  py := .bool
  h _ := rfl
  dep := 0
  hd _ := Nat.le_refl 0
  ok _ := true
  hok _ := by unfold PyData.canLay0; rfl
  inj a b := by unfold PyData.eqv; cases a <;> cases b <;> rfl
instance : PyT Str where
  py := .str
  h _ := rfl
  dep := 0
  hd _ := Nat.le_refl 0
  ok x := PyData.strOk x
  hok _ := by unfold PyData.canLay0; rfl
  inj a b := by unfold PyData.eqv; by_cases h : a = b <;> simp [h]
section
variable {α : Type} [Enc α] [DecidableEq α] [PyT α]
theorem pys_map : ∀ xs : List α, toPys (xs.map Enc.en) = some (xs.map PyT.py)
  | [] => rfl
  | x :: xs => by
    show (match toPy (enc x), toPys (xs.map Enc.en) with
      | some p, some ps => some (p :: ps)
      | _, _ => none) = _
    rw [PyT.h x, pys_map xs]; rfl
theorem dep_all : ∀ xs : List α, PyData.depthAll (xs.map PyT.py) ≤ PyT.dep (α := α)
  | [] => Nat.zero_le _
  | x :: xs => by
    show max (PyT.py x).depth (PyData.depthAll (xs.map PyT.py)) ≤ _
    have := PyT.hd x
    have := dep_all xs
    omega
theorem lay_all : ∀ xs : List α, PyData.canLayAll0 (xs.map PyT.py) = xs.all PyT.ok
  | [] => rfl
  | x :: xs => by
    show ((PyT.py x).canLay0 && PyData.canLayAll0 (xs.map PyT.py)) = _
    rw [PyT.hok x, lay_all xs]; rfl
theorem eqv_all : ∀ xs ys : List α, PyData.eqvAll (xs.map PyT.py) (ys.map PyT.py) = decide (xs = ys)
  | [], [] => rfl
  | [], y :: ys => rfl
  | x :: xs, [] => rfl
  | x :: xs, y :: ys => by
    show (PyData.eqv (PyT.py x) (PyT.py y) && PyData.eqvAll (xs.map PyT.py) (ys.map PyT.py)) = _
    rw [PyT.inj x y, eqv_all xs ys]
    by_cases h : x = y <;> by_cases h' : xs = ys <;> simp [h, h']
instance : PyT (List α) where
  py xs := .list (xs.map PyT.py)
  h xs := by
    show (match toPys (xs.map Enc.en) with
      | some ps => some (PyData.list ps)
      | none => none) = _
    rw [pys_map]
  dep := PyT.dep (α := α) + 1
  hd xs := Nat.succ_le_succ (dep_all xs)
  ok xs := xs.all PyT.ok
  hok xs := by show PyData.canLayAll0 (xs.map PyT.py) = _; exact lay_all xs
  inj a b := by show PyData.eqvAll (a.map PyT.py) (b.map PyT.py) = _; exact eqv_all a b
instance : PyT (TL α) where
  py xs := .tuple (xs.l.map PyT.py)
  h xs := by
    show (match toPys (xs.l.map Enc.en) with
      | some ps => some (PyData.tuple ps)
      | none => none) = _
    rw [pys_map]
  dep := PyT.dep (α := α) + 1
  hd xs := Nat.succ_le_succ (dep_all xs.l)
  ok xs := xs.l.all PyT.ok
  hok xs := by show PyData.canLayAll0 (xs.l.map PyT.py) = _; exact lay_all xs.l
  inj a b := by
    show PyData.eqvAll (a.l.map PyT.py) (b.l.map PyT.py) = _
    rw [eqv_all]
    cases a; cases b
    simp
/-- None or a value that is none of None -/
class PyN (α : Type) [Enc α] [DecidableEq α] [PyT α] : Prop where
  l : ∀ a : α, PyData.eqv .none (PyT.py a) = false
  r : ∀ a : α, PyData.eqv (PyT.py a) .none = false
instance : PyN Int := ⟨fun _ => by unfold PyData.eqv PyT.py; rfl, fun _ => by unfold PyData.eqv PyT.py; rfl⟩
instance : PyN (List α) := ⟨fun _ => by unfold PyData.eqv PyT.py; rfl, fun _ => by unfold PyData.eqv PyT.py; rfl⟩
instance : PyN (TL α) := ⟨fun _ => by unfold PyData.eqv PyT.py; rfl, fun _ => by unfold PyData.eqv PyT.py; rfl⟩
instance [PyN α] : PyT (Option α) where
  py o := match o with
    | none => .none
    | some a => PyT.py a
  h o := by
    cases o with
    | none => rfl
    | some a => exact PyT.h a
  dep := PyT.dep (α := α)
  hd o := by
    cases o with
    | none => exact Nat.zero_le _
    | some a => exact PyT.hd a
  ok o := match o with
    | none => true
    | some a => PyT.ok a
  hok o := by
    cases o with
    | none => show PyData.canLay0 .none = _; unfold PyData.canLay0; rfl
    | some a => exact PyT.hok a
  inj a b := by
    cases a with
    | none =>
      cases b with
      | none => show PyData.eqv .none .none = _; unfold PyData.eqv; rfl
      | some b => show PyData.eqv .none (PyT.py b) = _; rw [PyN.l]; rfl
    | some a =>
      cases b with
      | none => show PyData.eqv (PyT.py a) .none = _; rw [PyN.r]; rfl
      | some b => show PyData.eqv (PyT.py a) (PyT.py b) = _; rw [PyT.inj]; simp
end
section
variable {A B C E F : Type} [Enc A] [DecidableEq A] [PyT A] [Enc B] [DecidableEq B] [PyT B] [Enc C] [DecidableEq C] [PyT C]
instance : PyT (T1 A) where
  py x := .tuple [PyT.py x.a]
  h x := by
    show (match (match toPy (enc x.a), some ([] : List PyData) with
      | some p, some ps => some (p :: ps)
      | _, _ => none) with
      | some ps => some (PyData.tuple ps)
      | none => none) = _
    rw [PyT.h]
  dep := PyT.dep (α := A) + 1
  hd x := by
    show max (PyT.py x.a).depth 0 + 1 ≤ _
    have := PyT.hd x.a
    omega
  ok x := PyT.ok x.a
  hok x := by
    show ((PyT.py x.a).canLay0 && true) = _
    rw [PyT.hok, Bool.and_true]
  inj a b := by
    show (PyData.eqv (PyT.py a.a) (PyT.py b.a) && true) = _
    rw [PyT.inj, Bool.and_true]
    cases a; cases b; simp
instance : PyT (T2 A B) where
  py x := .tuple [PyT.py x.a, PyT.py x.b]
  h x := by
    show (match (match toPy (enc x.a), (match toPy (enc x.b), some ([] : List PyData) with
      | some p, some ps => some (p :: ps)
      | _, _ => none) with
      | some p, some ps => some (p :: ps)
      | _, _ => none) with
      | some ps => some (PyData.tuple ps)
      | none => none) = _
    rw [PyT.h, PyT.h]
  dep := max (PyT.dep (α := A)) (PyT.dep (α := B)) + 1
  hd x := by
    show max (PyT.py x.a).depth (max (PyT.py x.b).depth 0) + 1 ≤ _
    have := PyT.hd x.a
    have := PyT.hd x.b
    omega
  ok x := PyT.ok x.a && PyT.ok x.b
  hok x := by
    show ((PyT.py x.a).canLay0 && ((PyT.py x.b).canLay0 && true)) = _
    rw [PyT.hok, PyT.hok, Bool.and_true]
  inj a b := by
    show (PyData.eqv (PyT.py a.a) (PyT.py b.a) && (PyData.eqv (PyT.py a.b) (PyT.py b.b) && true)) = _
    rw [PyT.inj, PyT.inj, Bool.and_true]
    cases a; cases b
    simp
instance : PyT (T3 A B C) where
  py x := .tuple [PyT.py x.a, PyT.py x.b, PyT.py x.c]
  h x := by
    show (match (match toPy (enc x.a), (match toPy (enc x.b), (match toPy (enc x.c), some ([] : List PyData) with
      | some p, some ps => some (p :: ps)
      | _, _ => none) with
      | some p, some ps => some (p :: ps)
      | _, _ => none) with
      | some p, some ps => some (p :: ps)
      | _, _ => none) with
      | some ps => some (PyData.tuple ps)
      | none => none) = _
    rw [PyT.h, PyT.h, PyT.h]
  dep := max (PyT.dep (α := A)) (max (PyT.dep (α := B)) (PyT.dep (α := C))) + 1
  hd x := by
    show max (PyT.py x.a).depth (max (PyT.py x.b).depth (max (PyT.py x.c).depth 0)) + 1 ≤ _
    have := PyT.hd x.a
    have := PyT.hd x.b
    have := PyT.hd x.c
    omega
  ok x := PyT.ok x.a && (PyT.ok x.b && PyT.ok x.c)
  hok x := by
    show ((PyT.py x.a).canLay0 && ((PyT.py x.b).canLay0 && ((PyT.py x.c).canLay0 && true))) = _
    rw [PyT.hok, PyT.hok, PyT.hok, Bool.and_true]
  inj a b := by
    show (PyData.eqv (PyT.py a.a) (PyT.py b.a) && (PyData.eqv (PyT.py a.b) (PyT.py b.b) && (PyData.eqv (PyT.py a.c) (PyT.py b.c) && true))) = _
    rw [PyT.inj, PyT.inj, PyT.inj, Bool.and_true]
    cases a; cases b
    simp
instance : PyN (T1 A) := ⟨fun _ => by unfold PyData.eqv PyT.py; rfl, fun _ => by unfold PyData.eqv PyT.py; rfl⟩
instance : PyN (T2 A B) := ⟨fun _ => by unfold PyData.eqv PyT.py; rfl, fun _ => by unfold PyData.eqv PyT.py; rfl⟩
instance : PyN (T3 A B C) := ⟨fun _ => by unfold PyData.eqv PyT.py; rfl, fun _ => by unfold PyData.eqv PyT.py; rfl⟩
end
section
variable {α : Type} [Enc α] [DecidableEq α] [PyT α]
/-- equality of nested data; their texts must be such as can stand in a tuple -/
def eqT (a b : α) : Res Bool := if (PyT.ok a && PyT.ok b) = true then .ok (decide (a = b)) else .bad
def neT (a b : α) : Res Bool := if (PyT.ok a && PyT.ok b) = true then .ok (!decide (a = b)) else .bad
theorem eqB_t (a b : α) (h64 : PyT.dep (α := α) ≤ 64) (h : (PyT.ok a && PyT.ok b) = true) : eqB (enc a) (enc b) = .ok (decide (a = b)) := by
  have gen : ∀ x y : D, toPy x = some (PyT.py a) → toPy y = some (PyT.py b) → eqB x y = .ok (decide (a = b)) := by
    intro x y hx hy
    have hi := PyT.inj a b
    have s : (SeqAt.shaped (PyT.py a) && SeqAt.shaped (PyT.py b)) = true := by
      unfold SeqAt.shaped
      have h1 := PyT.hok a
      have h2 := PyT.hok b
      have h3 := PyT.hd a
      have h4 := PyT.hd b
      rw [h1, h2, decide_eq_true (by omega), decide_eq_true (by omega)]
      simpa using h
    have dflt : (match toPy x, toPy y with
      | some p, some q => if SeqAt.shaped p && SeqAt.shaped q then Res.ok (PyData.eqv p q) else .bad
      | _, _ => .bad) = .ok (decide (a = b)) := by
      rw [hx, hy]
      show (if (SeqAt.shaped (PyT.py a) && SeqAt.shaped (PyT.py b)) = true then Res.ok (PyData.eqv (PyT.py a) (PyT.py b)) else .bad) = _
      rw [if_pos s, hi]
    cases x <;> cases y <;> first
      | exact dflt
      | (simp only [toPy, Option.some.injEq] at hx hy
         rw [← hx, ← hy] at hi
         unfold PyData.eqv at hi
         rw [← hi]
         first
           | rfl
           | (rename_i u v
              show Res.ok (decide (u = v)) = _
              by_cases q : u = v <;> simp [q]))
  exact gen _ _ (PyT.h a) (PyT.h b)
theorem le_eqT (a b : α) (h64 : PyT.dep (α := α) ≤ 64) : Le enc (eqD (enc a) (enc b)) (eqT a b) := by
  unfold eqT
  by_cases h : (PyT.ok a && PyT.ok b) = true
  · rw [if_pos h]
    exact ⟨by unfold eqD; rw [eqB_t a b h64 h]; rfl⟩
  · rw [if_neg h]; exact ⟨trivial⟩
theorem le_neT (a b : α) (h64 : PyT.dep (α := α) ≤ 64) : Le enc (neD (enc a) (enc b)) (neT a b) := by
  unfold neT
  by_cases h : (PyT.ok a && PyT.ok b) = true
  · rw [if_pos h]
    exact ⟨by unfold neD; rw [eqB_t a b h64 h]; rfl⟩
  · rw [if_neg h]; exact ⟨trivial⟩
end
theorem le_max2 (xs : List Int) : Le enc (maxD2 [enc xs]) (maxT xs) := le_max xs
theorem le_min2 (xs : List Int) : Le enc (minD2 [enc xs]) (minT xs) := le_min xs
theorem le_maxt (xs : TL Int) : Le enc (maxD2 [enc xs]) (maxT xs.l) := le_max xs.l
theorem le_mint (xs : TL Int) : Le enc (minD2 [enc xs]) (minT xs.l) := le_min xs.l
end Cr
/-! Tl, part 5: calls whose list is new. -/
namespace Cr
open PySem L2
class Atm (α : Type) [Enc α] : Prop where
  h : ∀ a : α, isAtom (enc a) = true
class Flt5 (α : Type) [Enc α] : Prop where
  h : ∀ a : α, flatL (enc a) = true
instance : Atm Int := ⟨fun _ => rfl⟩
instance : Atm Bool := ⟨fun _ => rfl⟩
instance : Atm Str := ⟨fun _ => rfl⟩
instance {α : Type} [Enc α] [Atm α] : Atm (Option α) := ⟨fun o => by cases o with | none => rfl | some a => exact Atm.h a⟩
instance {α : Type} [Enc α] [Atm α] : Flt5 (List α) := ⟨fun xs => by
  show (xs.map Enc.en).all isAtom = true
  rw [List.all_map]
  exact List.all_eq_true.mpr fun x _ => Atm.h x⟩
instance : Flt5 Int := ⟨fun _ => rfl⟩
instance : Flt5 Bool := ⟨fun _ => rfl⟩
instance : Flt5 Str := ⟨fun _ => rfl⟩
theorem fl_nil : flatLs [] = true := rfl
theorem fl_cons {α : Type} [Enc α] [Flt5 α] {a : α} {ds : List D} (h : flatLs ds = true) : flatLs (enc a :: ds) = true := by
  show (flatL (enc a) && flatLs ds) = true
  rw [Flt5.h a, h]; rfl
theorem le_own {α : Type} [Enc α] {e' : α → List D} {ds : List D} {r : Res D} {t : Res α} (h : Le enc r t) (hl : ∀ a, enc a = .lst (e' a)) (ha : ∀ a, (e' a).any (fun d => !isAtom d) = true) (hn : ∀ a, noLsts (e' a) = true) (hf : flatLs ds = true) : Le e' (r >>= ownD ds) t := by
  cases t with
  | bad => exact ⟨trivial⟩
  | err x => have h : r = .err x := h.g; exact ⟨by rw [h]; rfl⟩
  | ok a =>
    have h : r = .ok (enc a) := h.g
    refine ⟨?_⟩
    rw [h]
    show ownD ds (enc a) = .ok (e' a)
    rw [hl a]
    show (if ((e' a).any (fun d => !isAtom d) && noLsts (e' a) && flatLs ds) = true then Res.ok (e' a) else .bad) = _
    rw [ha, hn, hf]; rfl
theorem c_argO {γ : Type} {Q : γ → Flow → Prop} {E : Env → Prop} {ρ : Env} {T : Res γ} {mf : List D → Res D} {ms : Env → Res (List D)} {K : List D → Flow} (h : Sim Q E (bindF (ms ρ) ρ fun xs => bindF (mf xs >>= ownD xs) ρ K) T) : Sim Q E (bindF (mArgO mf ms ρ) ρ K) T := c_arg h
theorem c_okgL {α γ δ : Type} {Q : γ → Flow → Prop} {E : Env → Prop} {ρ : Env} {r : Res δ} {K : δ → Flow} {F : α → Res γ} (e : α → δ) (v : α) (h : r = .ok (e v)) (k : ∀ x, Sim Q E (K (e x)) (F x)) : Sim Q E (bindF r ρ K) (letT v F) := by
  rw [h]; exact k v
end Cr
namespace Cr
open PySem L2
/-! the mirrors of law_k16_whole_every_train_comes_to_the_next_brake, printed by gen.py -/
def b_is_interval : Env → Flow := (mRet (mAndV (mBin eqD (mArg lenD (mCons (mVar 0) mNil)) (mC (.int 2))) (mBin leD (mBin idxD (mVar 0) (mC (.int 0))) (mBin idxD (mVar 0) (mC (.int 1))))))
def m_is_interval : List D → Res D := runD 1 b_is_interval
def b_layout_check_metre : Env → Flow := (mIfS (mNot (mTst (mChain leD ltD (mC (.int 0)) (mVar 1) (mArg lenD (mCons (mUn (fldD 20 1) (mVar 0)) mNil))))) (mRaise (.own 1)) mEnd)
def m_layout_check_metre : List D → Res D := runD 2 b_layout_check_metre
def b_check_energy : Env → Flow := (mSeq (mEx (mMth 20 m_layout_check_metre (mVar 0) (mCons (mVar 1) mNil))) (mIfS (mTst (mBin ltD (mVar 2) (mC (.int 0)))) (mRaise (.own 1)) mEnd))
def m_check_energy : List D → Res D := runD 3 b_check_energy
def b_layout_metre : Env → Flow := (mSeq (mEx (mMth 20 m_layout_check_metre (mVar 0) (mCons (mVar 1) mNil))) (mRet (mBin idxD (mUn (fldD 20 1) (mVar 0)) (mVar 1))))
def m_layout_metre : List D → Res D := runD 2 b_layout_metre
def b_after_metre : Env → Flow := (mSeq (mEx (mArg m_check_energy (mCons (mVar 0) (mCons (mVar 2) (mCons (mVar 3) mNil))))) (mSeq (mAsg (gQ (gSc (gN 7) (gSc (gN 8) (gSc (gN 9) gS0)))) (mMth 20 m_layout_metre (mVar 0) (mCons (mVar 2) mNil))) (mSeq (mSet 6 (mBin subD (mBin subD (mVar 3) (mBin mulD (mC (.int 1962)) (mVar 8))) (mVar 4))) (mSeq (mIfS (mTst (mBin eqD (mVar 7) (mC (.str "lift")))) (mRet (mArg max2D (mCons (mUn (fldD 21 3) (mVar 1)) (mCons (mVar 6) mNil)))) mEnd) (mSeq (mIfS (mAnd (mTst (mBin eqD (mVar 7) (mC (.str "brake")))) (mTst (mBin isNonD (mVar 5) (mC .non)))) (mRet (mArg max2D (mCons (mUn (fldD 21 4) (mVar 1)) (mCons (mVar 6) mNil)))) mEnd) (mSeq (mIfS (mTst (mBin eqD (mVar 7) (mC (.str "brake")))) (mSet 6 (mBin subD (mVar 6) (mVar 5))) mEnd) (mRet (mIf (mTst (mBin gtD (mVar 3) (mC (.int 0)))) (mArg max2D (mCons (mC (.int 0)) (mCons (mVar 6) mNil))) (mC (.int 0))))))))))
def m_after_metre : List D → Res D := runD 10 b_after_metre
def b_layout_total : Env → Flow := (mRet (mArg lenD (mCons (mUn (fldD 20 1) (mVar 0)) mNil)))
def m_layout_total : List D → Res D := runD 1 b_layout_total
def b_roll : Env → Flow := (mSeq (mEx (mArg m_check_energy (mCons (mVar 0) (mCons (mVar 2) (mCons (mVar 3) mNil))))) (mSeq (mIfS (mTst (mBin neD (mArg lenD (mCons (mVar 4) mNil)) (mArg lenD (mCons (mVar 5) mNil)))) (mRaise (.own 6)) mEnd) (mSeq (mSetO 6 (mLst mNil)) (mSeq (mFor (mArg zipL (mCons (mVar 4) (mCons (mVar 5) mNil))) (gQ (gSc (gN 7) (gSc (gN 8) gS0))) (mSeq (mSet 3 (mArg m_after_metre (mCons (mVar 0) (mCons (mVar 1) (mCons (mVar 2) (mCons (mVar 3) (mCons (mVar 7) (mCons (mVar 8) mNil)))))))) (mSeq (mLm 6 appG (mCons (mVar 3) mNil)) (mSet 2 (mBin modD (mBin addD (mVar 2) (mC (.int 1))) (mMth 20 m_layout_total (mVar 0) mNil)))))) (mFrz 6 (mRet (mVar 6)))))))
def m_roll : List D → Res D := runD 9 b_roll
def b_greatest_energies : Env → Flow := (mSeq (mSet 2 (mMth 20 m_layout_total (mVar 0) mNil)) (mSeq (mSet 3 (mBin mulD (toE (mLst (mCons (mBin idxD (mUn (fldD 21 1) (mVar 1)) (mC (.int 0))) mNil))) (mVar 2))) (mSeq (mSet 4 (mBin idxD (mArg m_roll (mCons (mVar 0) (mCons (mVar 1) (mCons (mC (.int 0)) (mCons (mUn (fldD 21 4) (mVar 1)) (mCons (mVar 3) (mCons (mBin mulD (toE (mLst (mCons (mC .non) mNil))) (mVar 2)) mNil))))))) (mUn negD (mC (.int 1))))) (mRet (mBin addD (toE (mLst (mCons (mVar 4) mNil))) (mSl cutD (mArg m_roll (mCons (mVar 0) (mCons (mVar 1) (mCons (mC (.int 0)) (mCons (mVar 4) (mCons (mVar 3) (mCons (mBin mulD (toE (mLst (mCons (mC .non) mNil))) (mVar 2)) mNil))))))) mNo (mPart (mUn negD (mC (.int 1))))))))))
def m_greatest_energies : List D → Res D := runD 5 b_greatest_energies
def b_layout_check_block : Env → Flow := (mIfS (mNot (mTst (mChain leD ltD (mC (.int 0)) (mVar 1) (mArg lenD (mCons (mUn (fldD 20 3) (mVar 0)) mNil))))) (mRaise (.own 1)) mEnd)
def m_layout_check_block : List D → Res D := runD 2 b_layout_check_block
def b_layout_begin : Env → Flow := (mSeq (mEx (mMth 20 m_layout_check_block (mVar 0) (mCons (mVar 1) mNil))) (mRet (mBin idxD (mUn (fldD 20 2) (mVar 0)) (mVar 1))))
def m_layout_begin : List D → Res D := runD 2 b_layout_begin
def b_layout_blocks : Env → Flow := (mRet (mArg lenD (mCons (mUn (fldD 20 3) (mVar 0)) mNil)))
def m_layout_blocks : List D → Res D := runD 1 b_layout_blocks
def b_layout_end : Env → Flow := (mSeq (mEx (mMth 20 m_layout_check_block (mVar 0) (mCons (mVar 1) mNil))) (mRet (mBin idxD (mUn (fldD 20 2) (mVar 0)) (mBin addD (mVar 1) (mC (.int 1))))))
def m_layout_end : List D → Res D := runD 2 b_layout_end
def b_least_energies : Env → Flow := (mSeq (mSetO 2 (mLst mNil)) (mSeq (mFor (mArg rng1 (mCons (mMth 20 m_layout_blocks (mVar 0) mNil) mNil)) (gN 3) (mSeq (mSet 4 (mBin subD (mMth 20 m_layout_end (mVar 0) (mCons (mVar 3) mNil)) (mMth 20 m_layout_begin (mVar 0) (mCons (mVar 3) mNil)))) (mSeq (mLm 2 appG (mCons (mUn (fldD 21 4) (mVar 1)) mNil)) (mSeq (mSet 5 (mBin mulD (toE (mLst (mCons (mBin idxD (mUn (fldD 21 1) (mVar 1)) (mC (.int 1))) mNil))) (mVar 4))) (mLm 2 extG (mCons (mSl cutD (mArg m_roll (mCons (mVar 0) (mCons (mVar 1) (mCons (mMth 20 m_layout_begin (mVar 0) (mCons (mVar 3) mNil)) (mCons (mUn (fldD 21 4) (mVar 1)) (mCons (mVar 5) (mCons (mBin mulD (toE (mLst (mCons (mC .non) mNil))) (mVar 4)) mNil))))))) mNo (mPart (mUn negD (mC (.int 1))))) mNil)))))) (mFrz 2 (mRet (mVar 2)))))
def m_least_energies : List D → Res D := runD 6 b_least_energies
def b_envelope_before : Env → Flow := (mSeq (mAsg (gQ (gSc (gN 5) (gSc (gN 6) (gSc (gN 7) gS0)))) (mMth 20 m_layout_metre (mVar 0) (mCons (mVar 2) mNil))) (mSeq (mSet 4 (mBin addD (mBin mulD (mC (.int 1962)) (mVar 6)) (mBin idxD (mUn (fldD 21 1) (mVar 1)) (mC (.int 0))))) (mSeq (mIfS (mTst (mBin eqD (mVar 5) (mC (.str "lift")))) (mRet (mIf (mAnd (mTst (mBin leD (mUn (fldD 21 3) (mVar 1)) (mVar 3))) (mTst (mBin geD (mBin addD (mVar 3) (mVar 4)) (mC (.int 0))))) (mBin addD (mVar 3) (mVar 4)) (mUn negD (mC (.int 1))))) mEnd) (mSeq (mIfS (mTst (mBin eqD (mVar 5) (mC (.str "brake")))) (mSet 4 (mBin iaddD (mVar 4) (mBin idxD (mUn (fldD 21 2) (mVar 1)) (mC (.int 0))))) mEnd) (mRet (mArg max2D (mCons (mC (.int 0)) (mCons (mBin addD (mArg max2D (mCons (mC (.int 0)) (mCons (mVar 3) mNil))) (mVar 4)) mNil))))))))
def m_envelope_before : List D → Res D := runD 8 b_envelope_before
def b_envelope : Env → Flow := (mSeq (mSetO 2 (mLst mNil)) (mSeq (mFor (mArg rng1 (mCons (mMth 20 m_layout_blocks (mVar 0) mNil) mNil)) (gN 3) (mSeq (mSetO 4 (mLst mNil)) (mSeq (mSet 5 (mC (.int 0))) (mSeq (mFor (mArg rng3 (mCons (mBin subD (mMth 20 m_layout_end (mVar 0) (mCons (mVar 3) mNil)) (mC (.int 1))) (mCons (mBin subD (mMth 20 m_layout_begin (mVar 0) (mCons (mVar 3) mNil)) (mC (.int 1))) (mCons (mUn negD (mC (.int 1))) mNil)))) (gN 6) (mSeq (mSet 5 (mArg m_envelope_before (mCons (mVar 0) (mCons (mVar 1) (mCons (mVar 6) (mCons (mVar 5) mNil)))))) (mLm 4 appG (mCons (mVar 5) mNil)))) (mLm 2 extG (mCons (toE (mUnF revL (mVarB 4))) mNil)))))) (mFrz 2 (mRet (mVar 2)))))
def m_envelope : List D → Res D := runD 7 b_envelope
def b_layout_brake : Env → Flow := (mSeq (mEx (mMth 20 m_layout_check_block (mVar 0) (mCons (mVar 1) mNil))) (mRet (mBin idxD (mUn (fldD 20 3) (mVar 0)) (mVar 1))))
def m_layout_brake : List D → Res D := runD 2 b_layout_brake
def b_faults : Env → Flow := (mSeq (mSet 2 (mArg m_envelope (mCons (mVar 0) (mCons (mVar 1) mNil)))) (mSeq (mSet 3 (mArg m_least_energies (mCons (mVar 0) (mCons (mVar 1) mNil)))) (mSeq (mSet 4 (mArg m_greatest_energies (mCons (mVar 0) (mCons (mVar 1) mNil)))) (mSeq (mSetO 5 (mLst mNil)) (mSeq (mFor (mArg rng1 (mCons (mMth 20 m_layout_blocks (mVar 0) mNil) mNil)) (gN 6) (mSeq (mSet 7 (mMth 20 m_layout_begin (mVar 0) (mCons (mVar 6) mNil))) (mSeq (mSet 8 (mMth 20 m_layout_brake (mVar 0) (mCons (mVar 6) mNil))) (mSeq (mIfS (mTst (mBin ltD (mBin subD (mVar 8) (mVar 7)) (mUn (fldD 21 0) (mVar 1)))) (mLm 5 appG (mCons (mTup (mCons (mC (.str "short")) (mCons (mVar 6) mNil))) mNil)) mEnd) (mSeq (mIfS (mTst (mBin eqD (mArg minD2 (mCons (mSl cutD (mVar 3) (mPart (mVar 7)) (mPart (mBin addD (mVar 8) (mC (.int 1))))) mNil)) (mC (.int 0)))) (mLm 5 appG (mCons (mTup (mCons (mC (.str "stall")) (mCons (mVar 6) mNil))) mNil)) mEnd) (mIfS (mTst (mBin gtD (mBin idxD (mVar 4) (mVar 8)) (mBin idxD (mVar 2) (mVar 8)))) (mLm 5 appG (mCons (mTup (mCons (mC (.str "fast")) (mCons (mVar 6) mNil))) mNil)) mEnd)))))) (mFrz 5 (mRet (mVar 5))))))))
def m_faults : List D → Res D := runD 9 b_faults
def b_check_segments : Env → Flow := (mSeq (mFor (mUnF seqOf (mVar 0)) (gQ (gSc (gN 1) (gSc (gN 2) (gSc (gN 3) gS0)))) (mIfS (mOr (mTst (mBin ninD (mVar 1) (mC (.tup [(.str "coast"), (.str "lift"), (.str "brake")])))) (mOr (mNot (mTst (mChain leD leD (mC (.int 1)) (mVar 2) (mC (.int 500))))) (mNot (mTst (mChain leD leD (mUn negD (mC (.int 100))) (mVar 3) (mC (.int 100))))))) (mRaise (.own 2)) mEnd)) (mSeq (mIfS (mTst (mBin gtD (mArg sumD (mCons (toE (mComp [4, 2, 4] (mUnF seqOf (mVar 0)) (gQ (gSc (gN 4) (gSc (gN 2) (gSc (gN 4) gS0)))) mYes (mVar 2))) mNil)) (mC (.int 4000)))) (mRaise (.own 2)) mEnd) (mSeq (mIfS (mTst (mBin neD (mArg sumD (mCons (toE (mComp [4, 2, 3] (mUnF seqOf (mVar 0)) (gQ (gSc (gN 4) (gSc (gN 2) (gSc (gN 3) gS0)))) mYes (mBin mulD (mVar 2) (mVar 3)))) mNil)) (mC (.int 0)))) (mRaise (.own 2)) mEnd) (mSeq (mIfS (mOr (mTst (mBin eqD (mArg lenD (mCons (mVar 0) mNil)) (mC (.int 0)))) (mTst (mBin neD (mBin idxD (mBin idxD (mVar 0) (mUn negD (mC (.int 1)))) (mC (.int 0))) (mC (.str "brake"))))) (mRaise (.own 2)) mEnd) (mIfS (mNot (mTst (mChain leD leD (mC (.int 2)) (mArg lenD (mCons (toE (mComp [1, 4, 4] (mUnF seqOf (mVar 0)) (gQ (gSc (gN 1) (gSc (gN 4) (gSc (gN 4) gS0)))) (mTst (mBin eqD (mVar 1) (mC (.str "brake")))) (mVar 1))) mNil)) (mC (.int 12))))) (mRaise (.own 2)) mEnd)))))
def m_check_segments : List D → Res D := runD 5 b_check_segments
def b_layout_init : Env → Flow := (mSeq (mEx (mArg m_check_segments (mCons (mVar 1) mNil))) (mSeq (mSelfSet 0 20 "segments" (mArg tupD (mCons (mVar 1) mNil))) (mSeq (mSelfSetO 0 20 "metres" (mLst mNil)) (mSeq (mSelfSetO 0 20 "begins" (mLst (mCons (mC (.int 0)) mNil))) (mSeq (mSelfSetO 0 20 "brakes" (mLst mNil)) (mSeq (mSelfSetO 0 20 "heights" (mLst (mCons (mC (.int 0)) mNil))) (mFor (mUnF seqOf (mVar 1)) (gQ (gSc (gN 2) (gSc (gN 3) (gSc (gN 4) gS0)))) (mSeq (mIfS (mTst (mBin eqD (mVar 2) (mC (.str "brake")))) (mSelfLm 0 20 "brakes" appG (mCons (mArg lenD (mCons (mSelfB 0 20 "metres") mNil)) mNil)) mEnd) (mSeq (mSet 5 (mBin subD (mArg lenD (mCons (mSelfB 0 20 "begins") mNil)) (mC (.int 1)))) (mSeq (mFor (mArg rng1 (mCons (mVar 3) mNil)) (gN 6) (mSeq (mSelfLm 0 20 "metres" appG (mCons (mTup (mCons (mVar 2) (mCons (mVar 4) (mCons (mVar 5) mNil)))) mNil)) (mSelfLm 0 20 "heights" appG (mCons (mBin addD (mBin idxD (mSelfB 0 20 "heights") (mUn negD (mC (.int 1)))) (mVar 4)) mNil)))) (mIfS (mTst (mBin eqD (mVar 2) (mC (.str "brake")))) (mSelfLm 0 20 "begins" appG (mCons (mArg lenD (mCons (mSelfB 0 20 "metres") mNil)) mNil)) mEnd)))))))))))
def m_layout_init : List D → Res (List D) := runI 7 20 b_layout_init
def b_layout_height : Env → Flow := (mSeq (mEx (mMth 20 m_layout_check_metre (mVar 0) (mCons (mVar 1) mNil))) (mRet (mBin idxD (mUn (fldD 20 4) (mVar 0)) (mVar 1))))
def m_layout_height : List D → Res D := runD 2 b_layout_height
def b_train_init : Env → Flow := (mSeq (mIfS (mNot (mTst (mChain leD leD (mC (.int 1)) (mVar 1) (mC (.int 100))))) (mRaise (.own 3)) mEnd) (mSeq (mIfS (mOr (mNot (mTst (mArg m_is_interval (mCons (mVar 2) mNil)))) (mOr (mTst (mBin ltD (mBin idxD (mVar 2) (mC (.int 0))) (mC (.int 0)))) (mTst (mBin gtD (mBin idxD (mVar 2) (mC (.int 1))) (mC (.int 100000)))))) (mRaise (.own 3)) mEnd) (mSeq (mIfS (mOr (mNot (mTst (mArg m_is_interval (mCons (mVar 3) mNil)))) (mOr (mTst (mBin ltD (mBin idxD (mVar 3) (mC (.int 0))) (mC (.int 1)))) (mTst (mBin gtD (mBin idxD (mVar 3) (mC (.int 1))) (mC (.int 1000000)))))) (mRaise (.own 3)) mEnd) (mSeq (mIfS (mOr (mNot (mTst (mChain leD leD (mC (.int 1)) (mVar 4) (mC (.int 10000000))))) (mNot (mTst (mChain leD leD (mC (.int 1)) (mVar 5) (mC (.int 10000000)))))) (mRaise (.own 3)) mEnd) (mSeq (mSelfSet 0 21 "length" (mVar 1)) (mSeq (mSelfSet 0 21 "friction" (mVar 2)) (mSeq (mSelfSet 0 21 "brake" (mVar 3)) (mSeq (mSelfSet 0 21 "lift" (mVar 4)) (mSelfSet 0 21 "drive" (mVar 5))))))))))
def m_train_init : List D → Res (List D) := runI 6 21 b_train_init
def b_law_cell : Env → Flow := (mSeq (mIfS (mTst (mBin ltD (mVar 1) (mArg lenD (mCons (mVar 0) mNil)))) (mRet (mArg absD (mCons (mArg intD (mCons (mBin idxD (mVar 0) (mVar 1)) mNil)) mNil))) mEnd) (mRet (mC (.int 0))))
def m_law_cell : List D → Res D := runD 2 b_law_cell
def b_law_draws : Env → Flow := (mSeq (mSetO 2 (mLst mNil)) (mSeq (mSet 3 (mVar 0)) (mSeq (mFor (mArg rng1 (mCons (mVar 1) mNil)) (gN 4) (mIfS (mAnd (mTst (mBin geD (mVar 0) (mBin powD (mC (.int 10)) (mC (.int 18))))) (mTst (mBin gtD (mVar 3) (mC (.int 0))))) (mSeq (mLm 2 appG (mCons (mBin modD (mArg intD (mCons (mVar 3) mNil)) (mC (.int 4096))) mNil)) (mSet 3 (mBin fdivD (mVar 3) (mC (.int 4096))))) (mSeq (mSet 5 (mBin modD (mArg intD (mCons (mBin addD (mBin mulD (mVar 0) (mC (.int 48271))) (mBin mulD (mBin addD (mVar 4) (mC (.int 1))) (mC (.int 69621)))) mNil)) (mC (.int 2147483647)))) (mSeq (mSet 5 (mBin modD (mArg intD (mCons (mBin addD (mBin addD (mBin mulD (mVar 5) (mVar 5)) (mBin mulD (mVar 5) (mC (.int 16807)))) (mBin mulD (mVar 4) (mC (.int 7919)))) mNil)) (mC (.int 2147483629)))) (mSeq (mSet 5 (mBin modD (mArg intD (mCons (mBin addD (mBin addD (mBin mulD (mVar 5) (mVar 5)) (mVar 0)) (mBin mulD (mC (.int 13)) (mVar 4))) mNil)) (mC (.int 2147483587)))) (mLm 2 appG (mCons (mBin modD (mBin fdivD (mVar 5) (mC (.int 7))) (mC (.int 4096))) mNil))))))) (mFrz 2 (mRet (mVar 2))))))
def m_law_draws : List D → Res D := runD 6 b_law_draws
def b_law_drawn_segments : Env → Flow := (mSeq (mSet 2 (mBin addD (mC (.int 2)) (mBin modD (mBin idxD (mVar 0) (mC (.int 0))) (mC (.int 2))))) (mSeq (mSetO 3 (mLst mNil)) (mSeq (mSet 4 (mC (.int 0))) (mSeq (mFor (mArg rng1 (mCons (mVar 2) mNil)) (gN 5) (mSeq (mFor (mArg rng1 (mCons (mBin modD (mBin idxD (mVar 0) (mBin addD (mC (.int 1)) (mVar 5))) (mC (.int 3))) mNil)) (gN 7) (mSeq (mSet 9 (mBin idxD (mVar 0) (mBin addD (mBin addD (mC (.int 4)) (mBin mulD (mC (.int 3)) (mVar 5))) (mVar 7)))) (mSeq (mSet 10 (mBin idxD (toE (mLst (mCons (mC (.str "coast")) (mCons (mC (.str "coast")) (mCons (mC (.str "lift")) mNil))))) (mBin modD (mVar 9) (mC (.int 3))))) (mSeq (mSet 11 (mBin subD (mBin modD (mBin fdivD (mVar 9) (mC (.int 3))) (mC (.int 61))) (mC (.int 30)))) (mSeq (mSet 12 (mBin addD (mC (.int 1)) (mBin modD (mBin fdivD (mVar 9) (mC (.int 200))) (mVar 1)))) (mSeq (mLm 3 appG (mCons (mTup (mCons (mVar 10) (mCons (mVar 12) (mCons (mVar 11) mNil)))) mNil)) (mSet 4 (mBin addD (mVar 4) (mBin mulD (mVar 12) (mVar 11)))))))))) (mSeq (mSet 8 (mBin subD (mBin modD (mBin idxD (mVar 0) (mBin addD (mC (.int 17)) (mVar 5))) (mC (.int 5))) (mC (.int 2)))) (mSeq (mLm 3 appG (mCons (mTup (mCons (mC (.str "brake")) (mCons (mBin addD (mC (.int 1)) (mBin modD (mBin idxD (mVar 0) (mBin addD (mC (.int 14)) (mVar 5))) (mC (.int 6)))) (mCons (mVar 8) mNil)))) mNil)) (mSet 4 (mBin addD (mVar 4) (mBin mulD (mBin idxD (mBin idxD (mVarB 3) (mUn negD (mC (.int 1)))) (mC (.int 1))) (mVar 8)))))))) (mSeq (mLm 3 insG (mCons (mBin modD (mBin idxD (mVar 0) (mC (.int 20))) (mArg lenD (mCons (mVarB 3) mNil))) (mCons (mTup (mCons (mC (.str "coast")) (mCons (mBin idxD (toE (mLst (mCons (mC (.int 1)) (mCons (mC (.int 1)) (mCons (mC (.int 1)) (mCons (mC (.int 1)) (mCons (mC (.int 300)) mNil))))))) (mBin modD (mBin idxD (mVar 0) (mC (.int 22))) (mC (.int 5)))) (mCons (mC (.int 0)) mNil)))) mNil))) (mSeq (mSet 6 (mUn negD (mVar 4))) (mSeq (mFor (mArg rng1 (mCons (mC (.int 40)) mNil)) (gN 7) (mIfS (mTst (mBin neD (mVar 6) (mC (.int 0)))) (mSeq (mSet 11 (mArg max2D (mCons (mUn negD (mC (.int 90))) (mCons (mArg min2D (mCons (mC (.int 90)) (mCons (mVar 6) mNil))) mNil)))) (mSeq (mLm 3 insG (mCons (mC (.int 0)) (mCons (mTup (mCons (mBin idxD (toE (mLst (mCons (mBin idxD (mTup (mCons (mC (.str "coast")) (mCons (mC (.str "lift")) mNil))) (mArg intD (mCons (mBin gtD (mVar 11) (mC (.int 0))) mNil))) (mCons (mC (.str "coast")) mNil)))) (mBin modD (mBin idxD (mVar 0) (mC (.int 21))) (mC (.int 2)))) (mCons (mC (.int 1)) (mCons (mVar 11) mNil)))) mNil))) (mSet 6 (mBin subD (mVar 6) (mVar 11))))) mEnd)) (mFrz 3 (mRet (mVar 3))))))))))
def m_law_drawn_segments : List D → Res D := runD 13 b_law_drawn_segments
def b_law_drawn_layout : Env → Flow := (mSeq (mSet 1 (mArg m_law_drawn_segments (mCons (mVar 0) (mCons (mC (.int 5)) mNil)))) (mSeq (mSet 2 (mArg sumD (mCons (toE (mComp [3, 4, 5] (mUnF seqOf (mVar 1)) (gQ (gSc (gN 3) (gSc (gN 4) (gSc (gN 5) gS0)))) mYes (mBin mulD (mVar 4) (mVar 5)))) mNil))) (mSeq (mIfS (mTst (mBin neD (mVar 2) (mC (.int 0)))) (mSet 1 (toE (mLst (mCons (mTup (mCons (mC (.str "lift")) (mCons (mC (.int 6)) (mCons (mC (.int 25)) mNil)))) (mCons (mTup (mCons (mC (.str "coast")) (mCons (mC (.int 5)) (mCons (mUn negD (mC (.int 30))) mNil)))) (mCons (mTup (mCons (mC (.str "brake")) (mCons (mC (.int 3)) (mCons (mC (.int 0)) mNil)))) (mCons (mTup (mCons (mC (.str "coast")) (mCons (mC (.int 3)) (mCons (mC (.int 0)) mNil)))) (mCons (mTup (mCons (mC (.str "brake")) (mCons (mC (.int 4)) (mCons (mC (.int 0)) mNil)))) mNil)))))))) mEnd) (mRet (mVar 1)))))
def m_law_drawn_layout : List D → Res D := runD 6 b_law_drawn_layout
def b_law_drawn_train : Env → Flow := (mSeq (mSet 1 (mBin modD (mBin idxD (mVar 0) (mC (.int 0))) (mC (.int 400)))) (mSeq (mSet 2 (mBin addD (mC (.int 5000)) (mBin mulD (mC (.int 73)) (mBin idxD (mVar 0) (mC (.int 1)))))) (mRet (toE (mLst (mCons (mBin addD (mC (.int 1)) (mBin modD (mBin idxD (mVar 0) (mC (.int 2))) (mC (.int 4)))) (mCons (mTup (mCons (mVar 1) (mCons (mBin addD (mVar 1) (mBin modD (mBin idxD (mVar 0) (mC (.int 3))) (mC (.int 900)))) mNil))) (mCons (mTup (mCons (mVar 2) (mCons (mBin addD (mVar 2) (mBin mulD (mC (.int 10)) (mBin idxD (mVar 0) (mC (.int 4))))) mNil))) (mCons (mBin addD (mC (.int 1)) (mBin mulD (mC (.int 30)) (mBin idxD (mVar 0) (mC (.int 5))))) (mCons (mBin addD (mC (.int 1)) (mBin mulD (mC (.int 20)) (mBin idxD (mVar 0) (mC (.int 6))))) mNil))))))))))
def m_law_drawn_train : List D → Res D := runD 3 b_law_drawn_train
def b_law_metres : Env → Flow := (mSeq (mSetO 1 (mLst mNil)) (mSeq (mSet 2 (mC (.int 0))) (mSeq (mFor (mUnF seqOf (mVar 0)) (gQ (gSc (gN 3) (gSc (gN 4) (gSc (gN 5) gS0)))) (mSeq (mFor (mArg rng1 (mCons (mVar 4) mNil)) (gN 6) (mLm 1 appG (mCons (mTup (mCons (mVar 3) (mCons (mVar 5) (mCons (mVar 2) mNil)))) mNil))) (mSet 2 (mBin addD (mVar 2) (mArg intD (mCons (mBin eqD (mVar 3) (mC (.str "brake"))) mNil)))))) (mFrz 1 (mRet (mVar 1))))))
def m_law_metres : List D → Res D := runD 7 b_law_metres
def b_law_after : Env → Flow := (mSeq (mAsg (gQ (gSc (gN 6) (gSc (gN 7) (gSc (gN 8) gS0)))) (mVar 0)) (mSeq (mSet 5 (mBin subD (mBin subD (mVar 2) (mBin mulD (mC (.int 1962)) (mVar 7))) (mVar 3))) (mSeq (mIfS (mTst (mBin eqD (mVar 6) (mC (.str "lift")))) (mRet (mArg max2D (mCons (mBin idxD (mVar 1) (mC (.int 3))) (mCons (mVar 5) mNil)))) mEnd) (mSeq (mIfS (mAnd (mTst (mBin eqD (mVar 6) (mC (.str "brake")))) (mTst (mBin isNonD (mVar 4) (mC .non)))) (mRet (mArg max2D (mCons (mBin idxD (mVar 1) (mC (.int 4))) (mCons (mVar 5) mNil)))) mEnd) (mSeq (mIfS (mTst (mBin eqD (mVar 6) (mC (.str "brake")))) (mSet 5 (mBin subD (mVar 5) (mVar 4))) mEnd) (mSeq (mIfS (mTst (mBin eqD (mVar 2) (mC (.int 0)))) (mRet (mC (.int 0))) mEnd) (mRet (mArg max2D (mCons (mC (.int 0)) (mCons (mVar 5) mNil))))))))))
def m_law_after : List D → Res D := runD 9 b_law_after
def b_law_layout : Env → Flow := (mRet (mMk 20 m_layout_init (mCons (toE (mComp [1] (mUnF seqOf (mVar 0)) (gN 1) mYes (mVar 1))) mNil)))
def m_law_layout : List D → Res D := runD 2 b_law_layout
def b_law_train : Env → Flow := (mRet (mMk 21 m_train_init (mCons (mBin idxD (mVar 0) (mC (.int 0))) (mCons (mBin idxD (mVar 0) (mC (.int 1))) (mCons (mBin idxD (mVar 0) (mC (.int 2))) (mCons (mBin idxD (mVar 0) (mC (.int 3))) (mCons (mBin idxD (mVar 0) (mC (.int 4))) mNil)))))))
def m_law_train : List D → Res D := runD 1 b_law_train
def b_law_safe_rows : Env → Flow := (mSeq (mSet 1 (mBin addD (mC (.int 2)) (mBin modD (mBin idxD (mVar 0) (mC (.int 0))) (mC (.int 5))))) (mSeq (mSet 2 (mBin addD (mC (.int 5)) (mBin modD (mBin idxD (mVar 0) (mC (.int 1))) (mC (.int 26))))) (mRet (toE (mLst (mCons (mTup (mCons (mC (.str "coast")) (mCons (mC (.int 4)) (mCons (mC (.int 0)) mNil)))) (mCons (mTup (mCons (mC (.str "lift")) (mCons (mVar 1) (mCons (mVar 2) mNil)))) (mCons (mTup (mCons (mC (.str "coast")) (mCons (mVar 1) (mCons (mBin subD (mC (.int 0)) (mVar 2)) mNil)))) (mCons (mTup (mCons (mC (.str "brake")) (mCons (mBin addD (mC (.int 3)) (mBin modD (mBin idxD (mVar 0) (mC (.int 2))) (mC (.int 4)))) (mCons (mC (.int 0)) mNil)))) (mCons (mTup (mCons (mC (.str "coast")) (mCons (mBin addD (mC (.int 4)) (mBin modD (mBin idxD (mVar 0) (mC (.int 3))) (mC (.int 4)))) (mCons (mC (.int 0)) mNil)))) (mCons (mTup (mCons (mC (.str "brake")) (mCons (mBin addD (mC (.int 3)) (mBin modD (mBin idxD (mVar 0) (mC (.int 4))) (mC (.int 4)))) (mCons (mC (.int 0)) mNil)))) mNil)))))))))))
def m_law_safe_rows : List D → Res D := runD 3 b_law_safe_rows
def b_law_safe_train : Env → Flow := (mSeq (mSet 1 (mBin modD (mBin idxD (mVar 0) (mC (.int 5))) (mC (.int 60)))) (mSeq (mSet 2 (mBin addD (mC (.int 400000)) (mBin mulD (mC (.int 7)) (mBin idxD (mVar 0) (mC (.int 6)))))) (mRet (toE (mLst (mCons (mBin addD (mC (.int 1)) (mBin modD (mBin idxD (mVar 0) (mC (.int 7))) (mC (.int 4)))) (mCons (mTup (mCons (mVar 1) (mCons (mBin addD (mVar 1) (mBin modD (mBin idxD (mVar 0) (mC (.int 8))) (mC (.int 60)))) mNil))) (mCons (mTup (mCons (mVar 2) (mCons (mBin addD (mVar 2) (mBin mulD (mC (.int 11)) (mBin idxD (mVar 0) (mC (.int 9))))) mNil))) (mCons (mBin addD (mC (.int 40000)) (mBin idxD (mVar 0) (mC (.int 10)))) (mCons (mBin addD (mC (.int 20000)) (mBin idxD (mVar 0) (mC (.int 11)))) mNil))))))))))
def m_law_safe_train : List D → Res D := runD 3 b_law_safe_train
def b_law_rolled : Env → Flow := (mSeq (mSetO 6 (mLst mNil)) (mSeq (mFor (mArg rng1 (mCons (mArg lenD (mCons (mVar 4) mNil)) mNil)) (gN 7) (mSeq (mSet 3 (mArg m_law_after (mCons (mBin idxD (mVar 0) (mBin modD (mBin addD (mVar 2) (mVar 7)) (mArg lenD (mCons (mVar 0) mNil)))) (mCons (mVar 1) (mCons (mVar 3) (mCons (mBin idxD (mVar 4) (mVar 7)) (mCons (mBin idxD (mVar 5) (mVar 7)) mNil))))))) (mLm 6 appG (mCons (mVar 3) mNil)))) (mFrz 6 (mRet (mVar 6)))))
def m_law_rolled : List D → Res D := runD 8 b_law_rolled
def b_law_brake_of : Env → Flow := (mRet (mBin idxD (toE (mComp [2] (mArg rng1 (mCons (mArg lenD (mCons (mVar 0) mNil)) mNil)) (gN 2) (mAnd (mTst (mBin eqD (mBin idxD (mBin idxD (mVar 0) (mVar 2)) (mC (.int 2))) (mVar 1))) (mTst (mBin eqD (mBin idxD (mBin idxD (mVar 0) (mVar 2)) (mC (.int 0))) (mC (.str "brake"))))) (mVar 2))) (mC (.int 0))))
def m_law_brake_of : List D → Res D := runD 3 b_law_brake_of
def b_law : Env → Flow := (mSeq (mSet 1 (mArg m_law_draws (mCons (mArg m_law_cell (mCons (mVar 0) (mCons (mC (.int 0)) mNil))) (mCons (mC (.int 60)) mNil)))) (mSeq (mSet 2 (mArg m_law_safe_rows (mCons (mVar 1) mNil))) (mSeq (mSetO 3 (mArgO m_law_safe_train (mCons (mVar 1) mNil))) (mSeq (mIfS (mTst (mBin eqD (mBin modD (mBin idxD (mVar 1) (mC (.int 20))) (mC (.int 4))) (mC (.int 0)))) (mSeq (mSet 2 (mArg m_law_drawn_layout (mCons (mVar 1) mNil))) (mSeq (mSetO 3 (mArgO m_law_drawn_train (mCons (mVar 1) mNil))) (mSeq (mSetIx 3 (mC (.int 2)) (mTup (mCons (mBin addD (mBin idxD (mBin idxD (mVarB 3) (mC (.int 2))) (mC (.int 1))) (mC (.int 400000))) (mCons (mBin addD (mBin idxD (mBin idxD (mVarB 3) (mC (.int 2))) (mC (.int 1))) (mC (.int 500000))) mNil)))) (mSetIx 3 (mC (.int 0)) (mC (.int 1)))))) mEnd) (mSeq (mSet 4 (mArg m_law_metres (mCons (mVar 2) mNil))) (mSeq (mSet 5 (mArg m_law_layout (mCons (mVar 2) mNil))) (mFrz 3 (mSeq (mSet 6 (mArg m_law_train (mCons (mVar 3) mNil))) (mSeq (mIfS (mTst (mBin gtD (mArg lenD (mCons (mArg m_faults (mCons (mVar 5) (mCons (mVar 6) mNil))) mNil)) (mC (.int 0)))) (mRet (mBin eqD (mBin modD (mBin idxD (mVar 1) (mC (.int 20))) (mC (.int 4))) (mC (.int 0)))) mEnd) (mSeq (mSet 7 (mArg m_greatest_energies (mCons (mVar 5) (mCons (mVar 6) mNil)))) (mSeq (mFor (mArg rng1 (mCons (mBin addD (mBin idxD (mBin idxD (mVar 4) (mUn negD (mC (.int 1)))) (mC (.int 2))) (mC (.int 1))) mNil)) (gN 8) (mSeq (mSet 9 (toE (mComp [17] (mArg rng1 (mCons (mArg lenD (mCons (mVar 4) mNil)) mNil)) (gN 17) (mTst (mBin eqD (mBin idxD (mBin idxD (mVar 4) (mVar 17)) (mC (.int 2))) (mVar 8))) (mVar 17)))) (mSeq (mSet 10 (mBin subD (mArg m_law_brake_of (mCons (mVar 4) (mCons (mVar 8) mNil))) (mBin idxD (mVar 9) (mC (.int 0))))) (mSeq (mSet 11 (toE (mComp [17] (mArg rng1 (mCons (mArg lenD (mCons (mVar 9) mNil)) mNil)) (gN 17) mYes (mBin addD (mBin idxD (mBin idxD (mVarB 3) (mC (.int 1))) (mC (.int 0))) (mBin modD (mBin idxD (mVar 1) (mBin modD (mBin addD (mBin mulD (mC (.int 7)) (mVar 8)) (mVar 17)) (mC (.int 60)))) (mBin addD (mBin subD (mBin idxD (mBin idxD (mVarB 3) (mC (.int 1))) (mC (.int 1))) (mBin idxD (mBin idxD (mVarB 3) (mC (.int 1))) (mC (.int 0)))) (mC (.int 1)))))))) (mSeq (mSet 12 (toE (mComp [17] (mArg rng1 (mCons (mArg lenD (mCons (mVar 9) mNil)) mNil)) (gN 17) mYes (mBin addD (mBin idxD (mBin idxD (mVarB 3) (mC (.int 2))) (mC (.int 0))) (mBin modD (mBin idxD (mVar 1) (mBin modD (mBin addD (mBin mulD (mC (.int 5)) (mVar 8)) (mVar 17)) (mC (.int 60)))) (mBin addD (mBin subD (mBin idxD (mBin idxD (mVarB 3) (mC (.int 2))) (mC (.int 1))) (mBin idxD (mBin idxD (mVarB 3) (mC (.int 2))) (mC (.int 0)))) (mC (.int 1)))))))) (mSeq (mSet 13 (mBin subD (mBin idxD (mVar 7) (mBin idxD (mVar 9) (mC (.int 0)))) (mBin idxD (mVarB 3) (mC (.int 4))))) (mFor (mUnF seqOf (toE (mLst (mCons (mBin idxD (mVarB 3) (mC (.int 4))) (mCons (mBin idxD (mVar 7) (mBin idxD (mVar 9) (mC (.int 0)))) (mCons (mBin addD (mBin idxD (mVarB 3) (mC (.int 4))) (mBin fdivD (mBin mulD (mVar 13) (mBin modD (mBin idxD (mVar 1) (mVar 8)) (mC (.int 100)))) (mC (.int 100)))) mNil)))))) (gN 14) (mFrz 3 (mSeq (mSet 15 (mArg m_law_rolled (mCons (mVar 4) (mCons (mVar 3) (mCons (mBin idxD (mVar 9) (mC (.int 0))) (mCons (mVar 14) (mCons (mVar 11) (mCons (mVar 12) mNil)))))))) (mFrz 3 (mSeq (mSet 16 (mArg m_law_rolled (mCons (mVar 4) (mCons (mVar 3) (mCons (mBin idxD (mVar 9) (mC (.int 0))) (mCons (mVar 14) (mCons (mVar 11) (mCons (toE (mComp [17] (mUnF seqOf (mVar 9)) (gN 17) mYes (mC .non))) mNil)))))))) (mIfS (mOr (mTst (mBin inD (mC (.int 0)) (mSl cutD (mVar 15) mNo (mPart (mVar 10))))) (mOr (mTst (mBin ninD (mC (.int 0)) (mSl cutD (mVar 15) (mPart (mVar 10)) mNo))) (mOr (mTst (mBin inD (mC (.int 0)) (mVar 16))) (mTst (mBin ltD (mBin idxD (mVar 16) (mUn negD (mC (.int 1)))) (mBin idxD (mVarB 3) (mC (.int 4)))))))) (mRet (mC (.bl false))) mEnd)))))))))))) (mRet (mC (.bl true))))))))))))))
def m_law : List D → Res D := runD 18 b_law
end Cr
namespace Cr
open PySem L2
/-! typed readings of law_k16_whole_every_train_comes_to_the_next_brake, printed by tgen.py -/
structure C20 where
  segments : (TL (T3 Str Int Int))
  metres : (List (T3 Str Int Int))
  begins : (List Int)
  brakes : (List Int)
  heights : (List Int)
def e20 (o : C20) : List D := [enc o.segments, enc o.metres, enc o.begins, enc o.brakes, enc o.heights]
instance : Enc C20 := ⟨fun o => .obj 20 [Enc.en o.segments, Enc.en o.metres, Enc.en o.begins, Enc.en o.brakes, Enc.en o.heights]⟩
structure C21 where
  length : Int
  friction : (T2 Int Int)
  brake : (T2 Int Int)
  lift : Int
  drive : Int
def e21 (o : C21) : List D := [enc o.length, enc o.friction, enc o.brake, enc o.lift, enc o.drive]
instance : Enc C21 := ⟨fun o => .obj 21 [Enc.en o.length, Enc.en o.friction, Enc.en o.brake, Enc.en o.lift, Enc.en o.drive]⟩
def t_is_interval (pair1 : (T2 Int Int)) : Res Bool :=
 (.ok ((decide ((2 : Int) = (2 : Int))) && (decide (pair1.a ≤ pair1.b))))
theorem r_is_interval (pair1 : (T2 Int Int)) : Le enc (m_is_interval [enc pair1]) (t_is_interval pair1) := by
  unfold m_is_interval b_is_interval t_is_interval
  exact le_fn [.v (.d (enc pair1))] rfl (q_ret (c_ok ((decide ((2 : Int) = (2 : Int))) && (decide (pair1.a ≤ pair1.b))) (p_andV (p_bin (x := enc (2 : Int)) (y := enc (2 : Int)) (p_arg (p_cons (x := enc pair1) rfl p_nil) rfl) rfl (k_eq (2 : Int) (2 : Int))) (p_bin (x := enc pair1.a) (y := enc pair1.b) (p_bin (x := enc pair1) (y := enc (0 : Int)) rfl rfl rfl) (p_bin (x := enc pair1) (y := enc (1 : Int)) rfl rfl rfl) rfl)) (s_rt ((decide ((2 : Int) = (2 : Int))) && (decide (pair1.a ≤ pair1.b))) rfl)))
def t_layout_check_metre (self2 : C20) (number3 : Int) : Res Unit :=
 (if (!((decide ((0 : Int) ≤ number3)) && (decide (number3 < (self2.metres.length : Int))))) = true then
 (.err (.own 1))
 else (.ok ()))
theorem r_layout_check_metre (self2 : C20) (number3 : Int) : Le enc (m_layout_check_metre [enc self2, enc number3]) (t_layout_check_metre self2 number3) := by
  unfold m_layout_check_metre b_layout_check_metre t_layout_check_metre
  exact le_fn [.v (.d (enc self2)), .v (.d (enc number3))] rfl (q_if (c_okb (!((decide ((0 : Int) ≤ number3)) && (decide (number3 < (self2.metres.length : Int))))) (p_not (p_tst (p_chain (x := enc (0 : Int)) (y := enc number3) (z := enc (self2.metres.length : Int)) rfl rfl (p_arg (p_cons (x := enc self2.metres) (p_un (x := enc self2) rfl rfl) p_nil) (k_len self2.metres)) rfl rfl))) (q_ite (fun _ => (q_raise trivial)) (fun _ => (q_end (s_nF () rfl))))))
def t_check_energy (layout4 : C20) (metre5 : Int) (energy6 : Int) : Res Unit :=
 ((t_layout_check_metre layout4 metre5) >>= fun v7 =>
 (if (decide (energy6 < (0 : Int))) = true then
 (.err (.own 1))
 else (.ok ())))
theorem r_check_energy (layout4 : C20) (metre5 : Int) (energy6 : Int) : Le enc (m_check_energy [enc layout4, enc metre5, enc energy6]) (t_check_energy layout4 metre5 energy6) := by
  unfold m_check_energy b_check_energy t_check_energy
  exact le_fn [.v (.d (enc layout4)), .v (.d (enc metre5)), .v (.d (enc energy6))] rfl (q_seq (q_ex (c_mth _ (enc layout4) rfl (fun K hK => c_ok layout4 rfl hK) (c_cons (c_ok metre5 rfl (c_nil (c_leaf (r_layout_check_metre layout4 metre5) trivial fun v7 => (q_if (c_okb (decide (energy6 < (0 : Int))) (p_tst (p_bin (x := enc energy6) (y := enc (0 : Int)) rfl rfl rfl)) (q_ite (fun _ => (q_raise trivial)) (fun _ => (q_end (s_nF () rfl)))))))))))))
def t_layout_metre (self8 : C20) (number9 : Int) : Res (T3 Str Int Int) :=
 ((t_layout_check_metre self8 number9) >>= fun v10 =>
 ((idxT self8.metres number9) >>= fun r11 =>
 (.ok r11)))
theorem r_layout_metre (self8 : C20) (number9 : Int) : Le enc (m_layout_metre [enc self8, enc number9]) (t_layout_metre self8 number9) := by
  unfold m_layout_metre b_layout_metre t_layout_metre
  exact le_fn [.v (.d (enc self8)), .v (.d (enc number9))] rfl (q_seq (q_ex (c_mth _ (enc self8) rfl (fun K hK => c_ok self8 rfl hK) (c_cons (c_ok number9 rfl (c_nil (c_leaf (r_layout_check_metre self8 number9) trivial fun v10 => (q_ret (c_bin (c_ok self8.metres (p_un (x := enc self8) rfl rfl) (c_ok number9 rfl (c_leaf (le_idx self8.metres number9) trivial fun r11 => (s_rt r11 rfl)))))))))))))
def t_after_metre (layout12 : C20) (train13 : C21) (metre14 : Int) (energy15 : Int) (friction16 : Int) (strength17 : (Option Int)) : Res Int :=
 ((t_check_energy layout12 metre14 energy15) >>= fun v18 =>
 ((t_layout_metre layout12 metre14) >>= fun p19 =>
 (letT ((energy15 - ((1962 : Int) * p19.b)) - friction16) fun rest20 =>
 (if (decide (p19.a = ("lift" : Str))) = true then
 (.ok (max train13.lift rest20))
 else (if ((decide (p19.a = ("brake" : Str))) && (strength17.isNone)) = true then
 (.ok (max train13.drive rest20))
 else ((if (decide (p19.a = ("brake" : Str))) = true then
 (unT strength17 >>= fun v22 =>
 (.ok (rest20 - v22)))
 else (.ok rest20) : Res Int) >>= fun s21 =>
 (.ok (if (decide ((0 : Int) < energy15)) = true then (max (0 : Int) s21) else (0 : Int)))))))))
theorem r_after_metre (layout12 : C20) (train13 : C21) (metre14 : Int) (energy15 : Int) (friction16 : Int) (strength17 : (Option Int)) : Le enc (m_after_metre [enc layout12, enc train13, enc metre14, enc energy15, enc friction16, enc strength17]) (t_after_metre layout12 train13 metre14 energy15 friction16 strength17) := by
  unfold m_after_metre b_after_metre t_after_metre
  exact le_fn [.v (.d (enc layout12)), .v (.d (enc train13)), .v (.d (enc metre14)), .v (.d (enc energy15)), .v (.d (enc friction16)), .v (.d (enc strength17)), .no, .no, .no, .no] rfl (q_seq (q_ex (c_arg (c_cons (c_ok layout12 rfl (c_cons (c_ok metre14 rfl (c_cons (c_ok energy15 rfl (c_nil (c_leaf (r_check_energy layout12 metre14 energy15) trivial fun v18 => (q_seq (q_asg (c_mth _ (enc layout12) rfl (fun K hK => c_ok layout12 rfl hK) (c_cons (c_ok metre14 rfl (c_nil (c_leaf (r_layout_metre layout12 metre14) trivial fun p19 => (q_opt [.v (.d (enc layout12)), .v (.d (enc train13)), .v (.d (enc metre14)), .v (.d (enc energy15)), .v (.d (enc friction16)), .v (.d (enc strength17)), .no, .v (.d (enc p19.a)), .v (.d (enc p19.b)), .v (.d (enc p19.c))] rfl (q_seq (q_set (c_okL ((energy15 - ((1962 : Int) * p19.b)) - friction16) (p_bin (x := enc (energy15 - ((1962 : Int) * p19.b))) (y := enc friction16) (p_bin (x := enc energy15) (y := enc ((1962 : Int) * p19.b)) rfl (p_bin (x := enc (1962 : Int)) (y := enc p19.b) rfl rfl (k_mull (1962 : Int) p19.b (by decide))) rfl) rfl rfl) fun rest20 => (q_put (i := 6) [.v (.d (enc layout12)), .v (.d (enc train13)), .v (.d (enc metre14)), .v (.d (enc energy15)), .v (.d (enc friction16)), .v (.d (enc strength17)), .v (.d (enc rest20)), .v (.d (enc p19.a)), .v (.d (enc p19.b)), .v (.d (enc p19.c))] rfl rfl (q_seq (q_if (c_okb (decide (p19.a = ("lift" : Str))) (p_tst (p_bin (x := enc p19.a) (y := enc ("lift" : Str)) rfl rfl (k_eq p19.a ("lift" : Str)))) (q_ite (fun _ => (q_ret (c_ok (max train13.lift rest20) (p_arg (p_cons (x := enc train13.lift) (p_un (x := enc train13) rfl rfl) (p_cons (x := enc rest20) rfl p_nil)) rfl) (s_rt (max train13.lift rest20) rfl)))) (fun _ => (q_end (q_seq (q_if (c_okb ((decide (p19.a = ("brake" : Str))) && (strength17.isNone)) (p_and (p_tst (p_bin (x := enc p19.a) (y := enc ("brake" : Str)) rfl rfl (k_eq p19.a ("brake" : Str)))) (p_tst (p_bin (x := enc strength17) (y := enc ()) rfl rfl (k_isnon strength17)))) (q_ite (fun _ => (q_ret (c_ok (max train13.drive rest20) (p_arg (p_cons (x := enc train13.drive) (p_un (x := enc train13) rfl rfl) (p_cons (x := enc rest20) rfl p_nil)) rfl) (s_rt (max train13.drive rest20) rfl)))) (fun _ => (q_end (q_seq (q_if (c_okb (decide (p19.a = ("brake" : Str))) (p_tst (p_bin (x := enc p19.a) (y := enc ("brake" : Str)) rfl rfl (k_eq p19.a ("brake" : Str)))) (q_join (I := (fun (s : Int) (ρ : Env) => ρ = [.v (.d (enc layout12)), .v (.d (enc train13)), .v (.d (enc metre14)), .v (.d (enc energy15)), .v (.d (enc friction16)), .v (.d (enc strength17)), .v (.d (enc s)), .v (.d (enc p19.a)), .v (.d (enc p19.b)), .v (.d (enc p19.c))])) (q_ite (fun _ => (q_set (c_bin (c_ok rest20 rfl (c_okU rfl fun v22 => (c_ok (rest20 - v22) rfl (q_put (i := 6) [.v (.d (enc layout12)), .v (.d (enc train13)), .v (.d (enc metre14)), .v (.d (enc energy15)), .v (.d (enc friction16)), .v (.d (enc strength17)), .v (.d (enc (rest20 - v22))), .v (.d (enc p19.a)), .v (.d (enc p19.b)), .v (.d (enc p19.c))] rfl rfl (s_nx (s := (rest20 - v22)) rfl)))))))) (fun _ => (q_end (s_nx (s := rest20) rfl)))) (by intro s21 ρ h; subst h; exact (q_ret (c_ok (if (decide ((0 : Int) < energy15)) = true then (max (0 : Int) s21) else (0 : Int)) (p_if (p_tst (p_bin (x := enc energy15) (y := enc (0 : Int)) rfl rfl rfl)) (p_arg (p_cons (x := enc (0 : Int)) rfl (p_cons (x := enc s21) rfl p_nil)) rfl) rfl) (s_rt (if (decide ((0 : Int) < energy15)) = true then (max (0 : Int) s21) else (0 : Int)) rfl)))))))))))))))))))))))))))))))))))))))))))
def t_layout_total (self23 : C20) : Res Int :=
 (.ok (self23.metres.length : Int))
theorem r_layout_total (self23 : C20) : Le enc (m_layout_total [enc self23]) (t_layout_total self23) := by
  unfold m_layout_total b_layout_total t_layout_total
  exact le_fn [.v (.d (enc self23))] rfl (q_ret (c_ok (self23.metres.length : Int) (p_arg (p_cons (x := enc self23.metres) (p_un (x := enc self23) rfl rfl) p_nil) (k_len self23.metres)) (s_rt (self23.metres.length : Int) rfl)))
def t_roll (layout24 : C20) (train25 : C21) (metre26 : Int) (energy27 : Int) (frictions28 : (List Int)) (strengths29 : (List (Option Int))) : Res (List Int) :=
 ((t_check_energy layout24 metre26 energy27) >>= fun v30 =>
 (if (!decide ((frictions28.length : Int) = (strengths29.length : Int))) = true then
 (.err (.own 6))
 else (foldT (fun (x41 : (T2 Int (Option Int))) (s31 : (Int × Int × (List Int))) =>
 ((t_after_metre layout24 train25 s31.1 s31.2.1 x41.a x41.b) >>= fun energy42 =>
 (appT s31.2.2 energy42 >>= fun found43 =>
 ((t_layout_total layout24) >>= fun v44 =>
 ((modT (s31.1 + (1 : Int)) v44) >>= fun metre45 =>
 (.ok (metre45, energy42, found43))))))) (List.zipWith T2.mk frictions28 strengths29) (metre26, energy27, ([] : (List Int))) >>= fun s36 =>
 (.ok s36.2.2))))
theorem r_roll (layout24 : C20) (train25 : C21) (metre26 : Int) (energy27 : Int) (frictions28 : (List Int)) (strengths29 : (List (Option Int))) : Le enc (m_roll [enc layout24, enc train25, enc metre26, enc energy27, enc frictions28, enc strengths29]) (t_roll layout24 train25 metre26 energy27 frictions28 strengths29) := by
  unfold m_roll b_roll t_roll
  exact le_fn [.v (.d (enc layout24)), .v (.d (enc train25)), .v (.d (enc metre26)), .v (.d (enc energy27)), .v (.d (enc frictions28)), .v (.d (enc strengths29)), .no, .no, .no] rfl (q_seq (q_ex (c_arg (c_cons (c_ok layout24 rfl (c_cons (c_ok metre26 rfl (c_cons (c_ok energy27 rfl (c_nil (c_leaf (r_check_energy layout24 metre26 energy27) trivial fun v30 => (q_seq (q_if (c_okb (!decide ((frictions28.length : Int) = (strengths29.length : Int))) (p_tst (p_bin (x := enc (frictions28.length : Int)) (y := enc (strengths29.length : Int)) (p_arg (p_cons (x := enc frictions28) rfl p_nil) (k_len frictions28)) (p_arg (p_cons (x := enc strengths29) rfl p_nil) (k_len strengths29)) (k_ne (frictions28.length : Int) (strengths29.length : Int)))) (q_ite (fun _ => (q_raise trivial)) (fun _ => (q_end (q_seq (q_setO (c_okg (encs ([] : (List Int))) (p_lst p_nil rfl) (q_put (i := 6) [.v (.d (enc layout24)), .v (.d (enc train25)), .v (.d (enc metre26)), .v (.d (enc energy27)), .v (.d (enc frictions28)), .v (.d (enc strengths29)), .v (.ol (encs ([] : (List Int)))), .no, .no] rfl rfl (q_seq (q_for (c_okg (encs (List.zipWith T2.mk frictions28 strengths29)) (p_arg (p_cons (x := enc frictions28) rfl (p_cons (x := enc strengths29) rfl p_nil)) (k_zip _ _)) (q_fold (I := (fun (s : (Int × Int × (List Int))) (ρ : Env) => ∃ u0 u1 : Sl, ρ = [.v (.d (enc layout24)), .v (.d (enc train25)), .v (.d (enc s.1)), .v (.d (enc s.2.1)), .v (.d (enc frictions28)), .v (.d (enc strengths29)), .v (.ol (encs s.2.2)), u0, u1] ∧ fre u0 ∧ fre u1)) (s0 := (metre26, energy27, ([] : (List Int)))) ⟨.no, .no, rfl, fre_no, fre_no⟩ (by intro x41 s31 ρ h; obtain ⟨u32, u34, rfl, w33, w35⟩ := h; exact (q_opt [.v (.d (enc layout24)), .v (.d (enc train25)), .v (.d (enc s31.1)), .v (.d (enc s31.2.1)), .v (.d (enc frictions28)), .v (.d (enc strengths29)), .v (.ol (encs s31.2.2)), .v (.d (enc x41.a)), .v (.d (enc x41.b))] (g_q rfl (g_s (g_n (i := 7) (ok_fre rfl w33) rfl) (g_s (g_n (i := 8) (ok_fre rfl w35) rfl) g_0))) (q_seq (q_set (c_arg (c_cons (c_ok layout24 rfl (c_cons (c_ok train25 rfl (c_cons (c_ok s31.1 rfl (c_cons (c_ok s31.2.1 rfl (c_cons (c_ok x41.a rfl (c_cons (c_ok x41.b rfl (c_nil (c_leaf (r_after_metre layout24 train25 s31.1 s31.2.1 x41.a x41.b) trivial fun energy42 => (q_put (i := 3) [.v (.d (enc layout24)), .v (.d (enc train25)), .v (.d (enc s31.1)), .v (.d (enc energy42)), .v (.d (enc frictions28)), .v (.d (enc strengths29)), .v (.ol (encs s31.2.2)), .v (.d (enc x41.a)), .v (.d (enc x41.b))] rfl rfl (q_seq (q_lm (encs s31.2.2) (fun ys => [.v (.d (enc layout24)), .v (.d (enc train25)), .v (.d (enc s31.1)), .v (.d (enc energy42)), .v (.d (enc frictions28)), .v (.d (enc strengths29)), .v (.ol ys), .v (.d (enc x41.a)), .v (.d (enc x41.b))]) rfl (fun _ => rfl) (c_cons (c_ok energy42 rfl (c_nil (c_leaf (e := encs) (le_app s31.2.2 energy42 _ rfl) trivial fun found43 => (q_set (c_bin (c_ok (s31.1 + (1 : Int)) (p_bin (x := enc s31.1) (y := enc (1 : Int)) rfl rfl rfl) (c_mth _ (enc layout24) rfl (fun K hK => c_ok layout24 rfl hK) (c_nil (c_leaf (r_layout_total layout24) trivial fun v44 => (c_leaf (le_mod (s31.1 + (1 : Int)) v44) trivial fun metre45 => (q_put (i := 2) [.v (.d (enc layout24)), .v (.d (enc train25)), .v (.d (enc metre45)), .v (.d (enc energy42)), .v (.d (enc frictions28)), .v (.d (enc strengths29)), .v (.ol (encs found43)), .v (.d (enc x41.a)), .v (.d (enc x41.b))] rfl rfl (s_nx (s := (metre45, energy42, found43)) ⟨.v (.d (enc x41.a)), .v (.d (enc x41.b)), rfl, (fre_v _), (fre_v _)⟩))))))))))))))))))))))))))))))))))) (by intro s36 ρ h; obtain ⟨u37, u39, rfl, w38, w40⟩ := h; exact (q_frz [.v (.d (enc layout24)), .v (.d (enc train25)), .v (.d (enc s36.1)), .v (.d (enc s36.2.1)), .v (.d (enc frictions28)), .v (.d (enc strengths29)), .v (.d (enc s36.2.2)), u37, u39] rfl (q_ret (c_ok s36.2.2 rfl (s_rt s36.2.2 rfl))))))))))))))))))))))))))))))
def t_greatest_energies (layout46 : C20) (train47 : C21) : Res (List Int) :=
 ((t_layout_total layout46) >>= fun total48 =>
 ((repT ([train47.friction.a] : (List Int)) total48) >>= fun free49 =>
 ((repT ([(none : (Option Int))] : (List (Option Int))) total48) >>= fun v50 =>
 ((t_roll layout46 train47 (0 : Int) train47.drive free49 v50) >>= fun v51 =>
 ((idxT v51 (-1 : Int)) >>= fun first52 =>
 ((repT ([(none : (Option Int))] : (List (Option Int))) total48) >>= fun v53 =>
 ((t_roll layout46 train47 (0 : Int) first52 free49 v53) >>= fun v54 =>
 ((extT ([first52] : (List Int)) (cutG v54 none (some (-1 : Int)))) >>= fun r55 =>
 (.ok r55)))))))))
theorem r_greatest_energies (layout46 : C20) (train47 : C21) : Le enc (m_greatest_energies [enc layout46, enc train47]) (t_greatest_energies layout46 train47) := by
  unfold m_greatest_energies b_greatest_energies t_greatest_energies
  exact le_fn [.v (.d (enc layout46)), .v (.d (enc train47)), .no, .no, .no] rfl (q_seq (q_set (c_mth _ (enc layout46) rfl (fun K hK => c_ok layout46 rfl hK) (c_nil (c_leaf (r_layout_total layout46) trivial fun total48 => (q_put (i := 2) [.v (.d (enc layout46)), .v (.d (enc train47)), .v (.d (enc total48)), .no, .no] rfl rfl (q_seq (q_set (c_bin (c_ok ([train47.friction.a] : (List Int)) (p_toE (p_lst (p_cons (x := enc train47.friction.a) (p_bin (x := enc train47.friction) (y := enc (0 : Int)) (p_un (x := enc train47) rfl rfl) rfl rfl) p_nil) rfl)) (c_ok total48 rfl (c_leaf (le_rep ([train47.friction.a] : (List Int)) total48 _ rfl) trivial fun free49 => (q_put (i := 3) [.v (.d (enc layout46)), .v (.d (enc train47)), .v (.d (enc total48)), .v (.d (enc free49)), .no] rfl rfl (q_seq (q_set (c_bin (c_arg (c_cons (c_ok layout46 rfl (c_cons (c_ok train47 rfl (c_cons (c_ok (0 : Int) rfl (c_cons (c_ok train47.drive (p_un (x := enc train47) rfl rfl) (c_cons (c_ok free49 rfl (c_cons (c_bin (c_ok ([(none : (Option Int))] : (List (Option Int))) (p_toE (p_lst (p_cons (x := enc (none : (Option Int))) rfl p_nil) rfl)) (c_ok total48 rfl (c_leaf (le_rep ([(none : (Option Int))] : (List (Option Int))) total48 _ rfl) trivial fun v50 => (c_nil (c_leaf (r_roll layout46 train47 (0 : Int) train47.drive free49 v50) trivial fun v51 => (c_ok (-1 : Int) (p_un (x := enc (1 : Int)) rfl rfl) (c_leaf (le_idx v51 (-1 : Int)) trivial fun first52 => (q_put (i := 4) [.v (.d (enc layout46)), .v (.d (enc train47)), .v (.d (enc total48)), .v (.d (enc free49)), .v (.d (enc first52))] rfl rfl (q_ret (c_bin (c_ok ([first52] : (List Int)) (p_toE (p_lst (p_cons (x := enc first52) rfl p_nil) rfl)) (c_sl (c_arg (c_cons (c_ok layout46 rfl (c_cons (c_ok train47 rfl (c_cons (c_ok (0 : Int) rfl (c_cons (c_ok first52 rfl (c_cons (c_ok free49 rfl (c_cons (c_bin (c_ok ([(none : (Option Int))] : (List (Option Int))) (p_toE (p_lst (p_cons (x := enc (none : (Option Int))) rfl p_nil) rfl)) (c_ok total48 rfl (c_leaf (le_rep ([(none : (Option Int))] : (List (Option Int))) total48 _ rfl) trivial fun v53 => (c_nil (c_leaf (r_roll layout46 train47 (0 : Int) first52 free49 v53) trivial fun v54 => (c_no (c_part (c_ok (-1 : Int) (p_un (x := enc (1 : Int)) rfl rfl) (c_int (c_ok (cutG v54 none (some (-1 : Int))) (k_cutD _ _ _) (c_leaf (le_addD ([first52] : (List Int)) (cutG v54 none (some (-1 : Int))) _ _ rfl rfl) trivial fun r55 => (s_rt r55 rfl))))))))))))))))))))))))))))))))))))))))))))))))))))))))))))))))))
def t_layout_check_block (self56 : C20) (block57 : Int) : Res Unit :=
 (if (!((decide ((0 : Int) ≤ block57)) && (decide (block57 < (self56.brakes.length : Int))))) = true then
 (.err (.own 1))
 else (.ok ()))
theorem r_layout_check_block (self56 : C20) (block57 : Int) : Le enc (m_layout_check_block [enc self56, enc block57]) (t_layout_check_block self56 block57) := by
  unfold m_layout_check_block b_layout_check_block t_layout_check_block
  exact le_fn [.v (.d (enc self56)), .v (.d (enc block57))] rfl (q_if (c_okb (!((decide ((0 : Int) ≤ block57)) && (decide (block57 < (self56.brakes.length : Int))))) (p_not (p_tst (p_chain (x := enc (0 : Int)) (y := enc block57) (z := enc (self56.brakes.length : Int)) rfl rfl (p_arg (p_cons (x := enc self56.brakes) (p_un (x := enc self56) rfl rfl) p_nil) (k_len self56.brakes)) rfl rfl))) (q_ite (fun _ => (q_raise trivial)) (fun _ => (q_end (s_nF () rfl))))))
def t_layout_begin (self58 : C20) (block59 : Int) : Res Int :=
 ((t_layout_check_block self58 block59) >>= fun v60 =>
 ((idxT self58.begins block59) >>= fun r61 =>
 (.ok r61)))
theorem r_layout_begin (self58 : C20) (block59 : Int) : Le enc (m_layout_begin [enc self58, enc block59]) (t_layout_begin self58 block59) := by
  unfold m_layout_begin b_layout_begin t_layout_begin
  exact le_fn [.v (.d (enc self58)), .v (.d (enc block59))] rfl (q_seq (q_ex (c_mth _ (enc self58) rfl (fun K hK => c_ok self58 rfl hK) (c_cons (c_ok block59 rfl (c_nil (c_leaf (r_layout_check_block self58 block59) trivial fun v60 => (q_ret (c_bin (c_ok self58.begins (p_un (x := enc self58) rfl rfl) (c_ok block59 rfl (c_leaf (le_idx self58.begins block59) trivial fun r61 => (s_rt r61 rfl)))))))))))))
def t_layout_blocks (self62 : C20) : Res Int :=
 (.ok (self62.brakes.length : Int))
theorem r_layout_blocks (self62 : C20) : Le enc (m_layout_blocks [enc self62]) (t_layout_blocks self62) := by
  unfold m_layout_blocks b_layout_blocks t_layout_blocks
  exact le_fn [.v (.d (enc self62))] rfl (q_ret (c_ok (self62.brakes.length : Int) (p_arg (p_cons (x := enc self62.brakes) (p_un (x := enc self62) rfl rfl) p_nil) (k_len self62.brakes)) (s_rt (self62.brakes.length : Int) rfl)))
def t_layout_end (self63 : C20) (block64 : Int) : Res Int :=
 ((t_layout_check_block self63 block64) >>= fun v65 =>
 ((idxT self63.begins (block64 + (1 : Int))) >>= fun r66 =>
 (.ok r66)))
theorem r_layout_end (self63 : C20) (block64 : Int) : Le enc (m_layout_end [enc self63, enc block64]) (t_layout_end self63 block64) := by
  unfold m_layout_end b_layout_end t_layout_end
  exact le_fn [.v (.d (enc self63)), .v (.d (enc block64))] rfl (q_seq (q_ex (c_mth _ (enc self63) rfl (fun K hK => c_ok self63 rfl hK) (c_cons (c_ok block64 rfl (c_nil (c_leaf (r_layout_check_block self63 block64) trivial fun v65 => (q_ret (c_bin (c_ok self63.begins (p_un (x := enc self63) rfl rfl) (c_ok (block64 + (1 : Int)) (p_bin (x := enc block64) (y := enc (1 : Int)) rfl rfl rfl) (c_leaf (le_idx self63.begins (block64 + (1 : Int))) trivial fun r66 => (s_rt r66 rfl)))))))))))))
def t_least_energies (layout67 : C20) (train68 : C21) : Res (List Int) :=
 ((t_layout_blocks layout67) >>= fun v83 =>
 ((rngT v83) >>= fun v84 =>
 (foldT (fun (x85 : Int) (s69 : (List Int)) =>
 ((t_layout_end layout67 x85) >>= fun v86 =>
 ((t_layout_begin layout67 x85) >>= fun v87 =>
 (appT s69 train68.drive >>= fun found88 =>
 ((repT ([train68.friction.b] : (List Int)) (v86 - v87)) >>= fun rough89 =>
 ((t_layout_begin layout67 x85) >>= fun v90 =>
 ((repT ([(none : (Option Int))] : (List (Option Int))) (v86 - v87)) >>= fun v91 =>
 ((t_roll layout67 train68 v90 train68.drive rough89 v91) >>= fun v92 =>
 (extT found88 (cutG v92 none (some (-1 : Int))) >>= fun found93 =>
 (.ok found93)))))))))) v84 ([] : (List Int)) >>= fun s76 =>
 (.ok s76))))
theorem r_least_energies (layout67 : C20) (train68 : C21) : Le enc (m_least_energies [enc layout67, enc train68]) (t_least_energies layout67 train68) := by
  unfold m_least_energies b_least_energies t_least_energies
  exact le_fn [.v (.d (enc layout67)), .v (.d (enc train68)), .no, .no, .no, .no] rfl (q_seq (q_setO (c_okg (encs ([] : (List Int))) (p_lst p_nil rfl) (q_put (i := 2) [.v (.d (enc layout67)), .v (.d (enc train68)), .v (.ol (encs ([] : (List Int)))), .no, .no, .no] rfl rfl (q_seq (q_for (c_arg (c_cons (c_mth _ (enc layout67) rfl (fun K hK => c_ok layout67 rfl hK) (c_nil (c_leaf (r_layout_blocks layout67) trivial fun v83 => (c_nil (c_leaf (e := encs) (le_rng v83) trivial fun v84 => (q_fold (I := (fun (s : (List Int)) (ρ : Env) => ∃ u0 u1 u2 : Sl, ρ = [.v (.d (enc layout67)), .v (.d (enc train68)), .v (.ol (encs s)), u0, u1, u2] ∧ fre u0 ∧ fre u1 ∧ fre u2)) (s0 := ([] : (List Int))) ⟨.no, .no, .no, rfl, fre_no, fre_no, fre_no⟩ (by intro x85 s69 ρ h; obtain ⟨u70, u72, u74, rfl, w71, w73, w75⟩ := h; exact (q_opt [.v (.d (enc layout67)), .v (.d (enc train68)), .v (.ol (encs s69)), .v (.d (enc x85)), u72, u74] (g_n (i := 3) (ok_fre rfl w71) rfl) (q_seq (q_set (c_bin (c_mth _ (enc layout67) rfl (fun K hK => c_ok layout67 rfl hK) (c_cons (c_ok x85 rfl (c_nil (c_leaf (r_layout_end layout67 x85) trivial fun v86 => (c_mth _ (enc layout67) rfl (fun K hK => c_ok layout67 rfl hK) (c_cons (c_ok x85 rfl (c_nil (c_leaf (r_layout_begin layout67 x85) trivial fun v87 => (c_ok (v86 - v87) rfl (q_put (i := 4) [.v (.d (enc layout67)), .v (.d (enc train68)), .v (.ol (encs s69)), .v (.d (enc x85)), .v (.d (enc (v86 - v87))), u74] (ok_fre rfl w73) rfl (q_seq (q_lm (encs s69) (fun ys => [.v (.d (enc layout67)), .v (.d (enc train68)), .v (.ol ys), .v (.d (enc x85)), .v (.d (enc (v86 - v87))), u74]) rfl (fun _ => rfl) (c_cons (c_ok train68.drive (p_un (x := enc train68) rfl rfl) (c_nil (c_leaf (e := encs) (le_app s69 train68.drive _ rfl) trivial fun found88 => (q_seq (q_set (c_bin (c_ok ([train68.friction.b] : (List Int)) (p_toE (p_lst (p_cons (x := enc train68.friction.b) (p_bin (x := enc train68.friction) (y := enc (1 : Int)) (p_un (x := enc train68) rfl rfl) rfl rfl) p_nil) rfl)) (c_ok (v86 - v87) rfl (c_leaf (le_rep ([train68.friction.b] : (List Int)) (v86 - v87) _ rfl) trivial fun rough89 => (q_put (i := 5) [.v (.d (enc layout67)), .v (.d (enc train68)), .v (.ol (encs found88)), .v (.d (enc x85)), .v (.d (enc (v86 - v87))), .v (.d (enc rough89))] (ok_fre rfl w75) rfl (q_lm (encs found88) (fun ys => [.v (.d (enc layout67)), .v (.d (enc train68)), .v (.ol ys), .v (.d (enc x85)), .v (.d (enc (v86 - v87))), .v (.d (enc rough89))]) rfl (fun _ => rfl) (c_cons (c_sl (c_arg (c_cons (c_ok layout67 rfl (c_cons (c_ok train68 rfl (c_cons (c_mth _ (enc layout67) rfl (fun K hK => c_ok layout67 rfl hK) (c_cons (c_ok x85 rfl (c_nil (c_leaf (r_layout_begin layout67 x85) trivial fun v90 => (c_cons (c_ok train68.drive (p_un (x := enc train68) rfl rfl) (c_cons (c_ok rough89 rfl (c_cons (c_bin (c_ok ([(none : (Option Int))] : (List (Option Int))) (p_toE (p_lst (p_cons (x := enc (none : (Option Int))) rfl p_nil) rfl)) (c_ok (v86 - v87) rfl (c_leaf (le_rep ([(none : (Option Int))] : (List (Option Int))) (v86 - v87) _ rfl) trivial fun v91 => (c_nil (c_leaf (r_roll layout67 train68 v90 train68.drive rough89 v91) trivial fun v92 => (c_no (c_part (c_ok (-1 : Int) (p_un (x := enc (1 : Int)) rfl rfl) (c_int (c_ok (cutG v92 none (some (-1 : Int))) (k_cutD _ _ _) (c_nil (c_leaf (e := encs) (le_ext found88 (cutG v92 none (some (-1 : Int))) _ rfl) trivial fun found93 => (s_nx (s := found93) ⟨.v (.d (enc x85)), .v (.d (enc (v86 - v87))), .v (.d (enc rough89)), rfl, (fre_v _), (fre_v _), (fre_v _)⟩))))))))))))))))))))))))))))))))))))))))))))))))))))))))))))))) (by intro s76 ρ h; obtain ⟨u77, u79, u81, rfl, w78, w80, w82⟩ := h; exact (q_frz [.v (.d (enc layout67)), .v (.d (enc train68)), .v (.d (enc s76)), u77, u79, u81] rfl (q_ret (c_ok s76 rfl (s_rt s76 rfl)))))))))))))))))))
def t_envelope_before (layout94 : C20) (train95 : C21) (metre96 : Int) (following97 : Int) : Res Int :=
 ((t_layout_metre layout94 metre96) >>= fun p98 =>
 (letT (((1962 : Int) * p98.b) + train95.friction.a) fun rest99 =>
 (if (decide (p98.a = ("lift" : Str))) = true then
 (.ok (if ((decide (train95.lift ≤ following97)) && (decide ((0 : Int) ≤ (following97 + rest99)))) = true then (following97 + rest99) else (-1 : Int)))
 else ((if (decide (p98.a = ("brake" : Str))) = true then
 (letT (rest99 + train95.brake.a) fun rest101 =>
 (.ok rest101))
 else (.ok rest99) : Res Int) >>= fun s100 =>
 (.ok (max (0 : Int) ((max (0 : Int) following97) + s100)))))))
theorem r_envelope_before (layout94 : C20) (train95 : C21) (metre96 : Int) (following97 : Int) : Le enc (m_envelope_before [enc layout94, enc train95, enc metre96, enc following97]) (t_envelope_before layout94 train95 metre96 following97) := by
  unfold m_envelope_before b_envelope_before t_envelope_before
  exact le_fn [.v (.d (enc layout94)), .v (.d (enc train95)), .v (.d (enc metre96)), .v (.d (enc following97)), .no, .no, .no, .no] rfl (q_seq (q_asg (c_mth _ (enc layout94) rfl (fun K hK => c_ok layout94 rfl hK) (c_cons (c_ok metre96 rfl (c_nil (c_leaf (r_layout_metre layout94 metre96) trivial fun p98 => (q_opt [.v (.d (enc layout94)), .v (.d (enc train95)), .v (.d (enc metre96)), .v (.d (enc following97)), .no, .v (.d (enc p98.a)), .v (.d (enc p98.b)), .v (.d (enc p98.c))] rfl (q_seq (q_set (c_okL (((1962 : Int) * p98.b) + train95.friction.a) (p_bin (x := enc ((1962 : Int) * p98.b)) (y := enc train95.friction.a) (p_bin (x := enc (1962 : Int)) (y := enc p98.b) rfl rfl (k_mull (1962 : Int) p98.b (by decide))) (p_bin (x := enc train95.friction) (y := enc (0 : Int)) (p_un (x := enc train95) rfl rfl) rfl rfl) rfl) fun rest99 => (q_put (i := 4) [.v (.d (enc layout94)), .v (.d (enc train95)), .v (.d (enc metre96)), .v (.d (enc following97)), .v (.d (enc rest99)), .v (.d (enc p98.a)), .v (.d (enc p98.b)), .v (.d (enc p98.c))] rfl rfl (q_seq (q_if (c_okb (decide (p98.a = ("lift" : Str))) (p_tst (p_bin (x := enc p98.a) (y := enc ("lift" : Str)) rfl rfl (k_eq p98.a ("lift" : Str)))) (q_ite (fun _ => (q_ret (c_ok (if ((decide (train95.lift ≤ following97)) && (decide ((0 : Int) ≤ (following97 + rest99)))) = true then (following97 + rest99) else (-1 : Int)) (p_if (p_and (p_tst (p_bin (x := enc train95.lift) (y := enc following97) (p_un (x := enc train95) rfl rfl) rfl rfl)) (p_tst (p_bin (x := enc (following97 + rest99)) (y := enc (0 : Int)) (p_bin (x := enc following97) (y := enc rest99) rfl rfl rfl) rfl rfl))) (p_bin (x := enc following97) (y := enc rest99) rfl rfl rfl) (p_un (x := enc (1 : Int)) rfl rfl)) (s_rt (if ((decide (train95.lift ≤ following97)) && (decide ((0 : Int) ≤ (following97 + rest99)))) = true then (following97 + rest99) else (-1 : Int)) rfl)))) (fun _ => (q_end (q_seq (q_if (c_okb (decide (p98.a = ("brake" : Str))) (p_tst (p_bin (x := enc p98.a) (y := enc ("brake" : Str)) rfl rfl (k_eq p98.a ("brake" : Str)))) (q_join (I := (fun (s : Int) (ρ : Env) => ρ = [.v (.d (enc layout94)), .v (.d (enc train95)), .v (.d (enc metre96)), .v (.d (enc following97)), .v (.d (enc s)), .v (.d (enc p98.a)), .v (.d (enc p98.b)), .v (.d (enc p98.c))])) (q_ite (fun _ => (q_set (c_okL (rest99 + train95.brake.a) (p_bin (x := enc rest99) (y := enc train95.brake.a) rfl (p_bin (x := enc train95.brake) (y := enc (0 : Int)) (p_un (x := enc train95) rfl rfl) rfl rfl) rfl) fun rest101 => (q_put (i := 4) [.v (.d (enc layout94)), .v (.d (enc train95)), .v (.d (enc metre96)), .v (.d (enc following97)), .v (.d (enc rest101)), .v (.d (enc p98.a)), .v (.d (enc p98.b)), .v (.d (enc p98.c))] rfl rfl (s_nx (s := rest101) rfl))))) (fun _ => (q_end (s_nx (s := rest99) rfl)))) (by intro s100 ρ h; subst h; exact (q_ret (c_ok (max (0 : Int) ((max (0 : Int) following97) + s100)) (p_arg (p_cons (x := enc (0 : Int)) rfl (p_cons (x := enc ((max (0 : Int) following97) + s100)) (p_bin (x := enc (max (0 : Int) following97)) (y := enc s100) (p_arg (p_cons (x := enc (0 : Int)) rfl (p_cons (x := enc following97) rfl p_nil)) rfl) rfl rfl) p_nil)) rfl) (s_rt (max (0 : Int) ((max (0 : Int) following97) + s100)) rfl))))))))))))))))))))))))))
def t_envelope (layout102 : C20) (train103 : C21) : Res (List Int) :=
 ((t_layout_blocks layout102) >>= fun v122 =>
 ((rngT v122) >>= fun v123 =>
 (foldT (fun (x124 : Int) (s104 : (List Int)) =>
 ((t_layout_end layout102 x124) >>= fun v131 =>
 ((t_layout_begin layout102 x124) >>= fun v132 =>
 ((rng3T (v131 - (1 : Int)) (v132 - (1 : Int)) (-1 : Int)) >>= fun v133 =>
 (foldT (fun (x134 : Int) (s125 : ((List Int) × Int)) =>
 ((t_envelope_before layout102 train103 x134 s125.2) >>= fun following135 =>
 (appT s125.1 following135 >>= fun backward136 =>
 (.ok (backward136, following135))))) v133 (([] : (List Int)), (0 : Int)) >>= fun s128 =>
 (extT s104 s128.1.reverse >>= fun found137 =>
 (.ok found137))))))) v123 ([] : (List Int)) >>= fun s113 =>
 (.ok s113))))
theorem r_envelope (layout102 : C20) (train103 : C21) : Le enc (m_envelope [enc layout102, enc train103]) (t_envelope layout102 train103) := by
  unfold m_envelope b_envelope t_envelope
  exact le_fn [.v (.d (enc layout102)), .v (.d (enc train103)), .no, .no, .no, .no, .no] rfl (q_seq (q_setO (c_okg (encs ([] : (List Int))) (p_lst p_nil rfl) (q_put (i := 2) [.v (.d (enc layout102)), .v (.d (enc train103)), .v (.ol (encs ([] : (List Int)))), .no, .no, .no, .no] rfl rfl (q_seq (q_for (c_arg (c_cons (c_mth _ (enc layout102) rfl (fun K hK => c_ok layout102 rfl hK) (c_nil (c_leaf (r_layout_blocks layout102) trivial fun v122 => (c_nil (c_leaf (e := encs) (le_rng v122) trivial fun v123 => (q_fold (I := (fun (s : (List Int)) (ρ : Env) => ∃ u0 u1 u2 u3 : Sl, ρ = [.v (.d (enc layout102)), .v (.d (enc train103)), .v (.ol (encs s)), u0, u1, u2, u3] ∧ fre u0 ∧ fre u1 ∧ fre u2 ∧ fre u3)) (s0 := ([] : (List Int))) ⟨.no, .no, .no, .no, rfl, fre_no, fre_no, fre_no, fre_no⟩ (by intro x124 s104 ρ h; obtain ⟨u105, u107, u109, u111, rfl, w106, w108, w110, w112⟩ := h; exact (q_opt [.v (.d (enc layout102)), .v (.d (enc train103)), .v (.ol (encs s104)), .v (.d (enc x124)), u107, u109, u111] (g_n (i := 3) (ok_fre rfl w106) rfl) (q_seq (q_setO (c_okg (encs ([] : (List Int))) (p_lst p_nil rfl) (q_put (i := 4) [.v (.d (enc layout102)), .v (.d (enc train103)), .v (.ol (encs s104)), .v (.d (enc x124)), .v (.ol (encs ([] : (List Int)))), u109, u111] (ok_fre rfl w108) rfl (q_seq (q_set (c_ok (0 : Int) rfl (q_put (i := 5) [.v (.d (enc layout102)), .v (.d (enc train103)), .v (.ol (encs s104)), .v (.d (enc x124)), .v (.ol (encs ([] : (List Int)))), .v (.d (enc (0 : Int))), u111] (ok_fre rfl w110) rfl (q_seq (q_for (c_arg (c_cons (c_bin (c_mth _ (enc layout102) rfl (fun K hK => c_ok layout102 rfl hK) (c_cons (c_ok x124 rfl (c_nil (c_leaf (r_layout_end layout102 x124) trivial fun v131 => (c_ok (1 : Int) rfl (c_ok (v131 - (1 : Int)) rfl (c_cons (c_bin (c_mth _ (enc layout102) rfl (fun K hK => c_ok layout102 rfl hK) (c_cons (c_ok x124 rfl (c_nil (c_leaf (r_layout_begin layout102 x124) trivial fun v132 => (c_ok (1 : Int) rfl (c_ok (v132 - (1 : Int)) rfl (c_cons (c_ok (-1 : Int) (p_un (x := enc (1 : Int)) rfl rfl) (c_nil (c_leaf (e := encs) (le_rng3 (v131 - (1 : Int)) (v132 - (1 : Int)) (-1 : Int)) trivial fun v133 => (q_fold (I := (fun (s : ((List Int) × Int)) (ρ : Env) => ∃ u0 : Sl, ρ = [.v (.d (enc layout102)), .v (.d (enc train103)), .v (.ol (encs s104)), .v (.d (enc x124)), .v (.ol (encs s.1)), .v (.d (enc s.2)), u0] ∧ fre u0)) (s0 := (([] : (List Int)), (0 : Int))) ⟨u111, rfl, w112⟩ (by intro x134 s125 ρ h; obtain ⟨u126, rfl, w127⟩ := h; exact (q_opt [.v (.d (enc layout102)), .v (.d (enc train103)), .v (.ol (encs s104)), .v (.d (enc x124)), .v (.ol (encs s125.1)), .v (.d (enc s125.2)), .v (.d (enc x134))] (g_n (i := 6) (ok_fre rfl w127) rfl) (q_seq (q_set (c_arg (c_cons (c_ok layout102 rfl (c_cons (c_ok train103 rfl (c_cons (c_ok x134 rfl (c_cons (c_ok s125.2 rfl (c_nil (c_leaf (r_envelope_before layout102 train103 x134 s125.2) trivial fun following135 => (q_put (i := 5) [.v (.d (enc layout102)), .v (.d (enc train103)), .v (.ol (encs s104)), .v (.d (enc x124)), .v (.ol (encs s125.1)), .v (.d (enc following135)), .v (.d (enc x134))] rfl rfl (q_lm (encs s125.1) (fun ys => [.v (.d (enc layout102)), .v (.d (enc train103)), .v (.ol (encs s104)), .v (.d (enc x124)), .v (.ol ys), .v (.d (enc following135)), .v (.d (enc x134))]) rfl (fun _ => rfl) (c_cons (c_ok following135 rfl (c_nil (c_leaf (e := encs) (le_app s125.1 following135 _ rfl) trivial fun backward136 => (s_nx (s := (backward136, following135)) ⟨.v (.d (enc x134)), rfl, (fre_v _)⟩)))))))))))))))))))))) (by intro s128 ρ h; obtain ⟨u129, rfl, w130⟩ := h; exact (q_lm (encs s104) (fun ys => [.v (.d (enc layout102)), .v (.d (enc train103)), .v (.ol ys), .v (.d (enc x124)), .v (.ol (encs s128.1)), .v (.d (enc s128.2)), u129]) rfl (fun _ => rfl) (c_cons (c_ok s128.1.reverse (p_toE (p_unF (x := enc s128.1) rfl (k_rev _))) (c_nil (c_leaf (e := encs) (le_ext s104 s128.1.reverse _ rfl) trivial fun found137 => (s_nx (s := found137) ⟨.v (.d (enc x124)), .v (.ol (encs s128.1)), .v (.d (enc s128.2)), u129, rfl, (fre_v _), (fre_v _), (fre_v _), w130⟩))))))))))))))))))))))))))))))))))))))))))) (by intro s113 ρ h; obtain ⟨u114, u116, u118, u120, rfl, w115, w117, w119, w121⟩ := h; exact (q_frz [.v (.d (enc layout102)), .v (.d (enc train103)), .v (.d (enc s113)), u114, u116, u118, u120] rfl (q_ret (c_ok s113 rfl (s_rt s113 rfl)))))))))))))))))))
def t_layout_brake (self138 : C20) (block139 : Int) : Res Int :=
 ((t_layout_check_block self138 block139) >>= fun v140 =>
 ((idxT self138.brakes block139) >>= fun r141 =>
 (.ok r141)))
theorem r_layout_brake (self138 : C20) (block139 : Int) : Le enc (m_layout_brake [enc self138, enc block139]) (t_layout_brake self138 block139) := by
  unfold m_layout_brake b_layout_brake t_layout_brake
  exact le_fn [.v (.d (enc self138)), .v (.d (enc block139))] rfl (q_seq (q_ex (c_mth _ (enc self138) rfl (fun K hK => c_ok self138 rfl hK) (c_cons (c_ok block139 rfl (c_nil (c_leaf (r_layout_check_block self138 block139) trivial fun v140 => (q_ret (c_bin (c_ok self138.brakes (p_un (x := enc self138) rfl rfl) (c_ok block139 rfl (c_leaf (le_idx self138.brakes block139) trivial fun r141 => (s_rt r141 rfl)))))))))))))
def t_faults (layout142 : C20) (train143 : C21) : Res (List (T2 Str Int)) :=
 ((t_envelope layout142 train143) >>= fun limits144 =>
 ((t_least_energies layout142 train143) >>= fun least145 =>
 ((t_greatest_energies layout142 train143) >>= fun greatest146 =>
 ((t_layout_blocks layout142) >>= fun v161 =>
 ((rngT v161) >>= fun v162 =>
 (foldT (fun (x163 : Int) (s147 : (List (T2 Str Int))) =>
 ((t_layout_begin layout142 x163) >>= fun begin164 =>
 ((t_layout_brake layout142 x163) >>= fun brake165 =>
 ((if (decide ((brake165 - begin164) < train143.length)) = true then
 (appT s147 (⟨("short" : Str), x163⟩ : (T2 Str Int)) >>= fun found167 =>
 (.ok found167))
 else (.ok s147) : Res (List (T2 Str Int))) >>= fun s166 =>
 ((minT (cutG least145 (some begin164) (some (brake165 + (1 : Int))))) >>= fun v168 =>
 ((if (decide (v168 = (0 : Int))) = true then
 (appT s166 (⟨("stall" : Str), x163⟩ : (T2 Str Int)) >>= fun found170 =>
 (.ok found170))
 else (.ok s166) : Res (List (T2 Str Int))) >>= fun s169 =>
 ((idxT greatest146 brake165) >>= fun v171 =>
 ((idxT limits144 brake165) >>= fun v172 =>
 (if (decide (v172 < v171)) = true then
 (appT s169 (⟨("fast" : Str), x163⟩ : (T2 Str Int)) >>= fun found173 =>
 (.ok found173))
 else (.ok s169)))))))))) v162 ([] : (List (T2 Str Int))) >>= fun s154 =>
 (.ok s154)))))))
theorem r_faults (layout142 : C20) (train143 : C21) : Le enc (m_faults [enc layout142, enc train143]) (t_faults layout142 train143) := by
  unfold m_faults b_faults t_faults
  exact le_fn [.v (.d (enc layout142)), .v (.d (enc train143)), .no, .no, .no, .no, .no, .no, .no] rfl (q_seq (q_set (c_arg (c_cons (c_ok layout142 rfl (c_cons (c_ok train143 rfl (c_nil (c_leaf (r_envelope layout142 train143) trivial fun limits144 => (q_put (i := 2) [.v (.d (enc layout142)), .v (.d (enc train143)), .v (.d (enc limits144)), .no, .no, .no, .no, .no, .no] rfl rfl (q_seq (q_set (c_arg (c_cons (c_ok layout142 rfl (c_cons (c_ok train143 rfl (c_nil (c_leaf (r_least_energies layout142 train143) trivial fun least145 => (q_put (i := 3) [.v (.d (enc layout142)), .v (.d (enc train143)), .v (.d (enc limits144)), .v (.d (enc least145)), .no, .no, .no, .no, .no] rfl rfl (q_seq (q_set (c_arg (c_cons (c_ok layout142 rfl (c_cons (c_ok train143 rfl (c_nil (c_leaf (r_greatest_energies layout142 train143) trivial fun greatest146 => (q_put (i := 4) [.v (.d (enc layout142)), .v (.d (enc train143)), .v (.d (enc limits144)), .v (.d (enc least145)), .v (.d (enc greatest146)), .no, .no, .no, .no] rfl rfl (q_seq (q_setO (c_okg (encs ([] : (List (T2 Str Int)))) (p_lst p_nil rfl) (q_put (i := 5) [.v (.d (enc layout142)), .v (.d (enc train143)), .v (.d (enc limits144)), .v (.d (enc least145)), .v (.d (enc greatest146)), .v (.ol (encs ([] : (List (T2 Str Int))))), .no, .no, .no] rfl rfl (q_seq (q_for (c_arg (c_cons (c_mth _ (enc layout142) rfl (fun K hK => c_ok layout142 rfl hK) (c_nil (c_leaf (r_layout_blocks layout142) trivial fun v161 => (c_nil (c_leaf (e := encs) (le_rng v161) trivial fun v162 => (q_fold (I := (fun (s : (List (T2 Str Int))) (ρ : Env) => ∃ u0 u1 u2 : Sl, ρ = [.v (.d (enc layout142)), .v (.d (enc train143)), .v (.d (enc limits144)), .v (.d (enc least145)), .v (.d (enc greatest146)), .v (.ol (encs s)), u0, u1, u2] ∧ fre u0 ∧ fre u1 ∧ fre u2)) (s0 := ([] : (List (T2 Str Int)))) ⟨.no, .no, .no, rfl, fre_no, fre_no, fre_no⟩ (by intro x163 s147 ρ h; obtain ⟨u148, u150, u152, rfl, w149, w151, w153⟩ := h; exact (q_opt [.v (.d (enc layout142)), .v (.d (enc train143)), .v (.d (enc limits144)), .v (.d (enc least145)), .v (.d (enc greatest146)), .v (.ol (encs s147)), .v (.d (enc x163)), u150, u152] (g_n (i := 6) (ok_fre rfl w149) rfl) (q_seq (q_set (c_mth _ (enc layout142) rfl (fun K hK => c_ok layout142 rfl hK) (c_cons (c_ok x163 rfl (c_nil (c_leaf (r_layout_begin layout142 x163) trivial fun begin164 => (q_put (i := 7) [.v (.d (enc layout142)), .v (.d (enc train143)), .v (.d (enc limits144)), .v (.d (enc least145)), .v (.d (enc greatest146)), .v (.ol (encs s147)), .v (.d (enc x163)), .v (.d (enc begin164)), u152] (ok_fre rfl w151) rfl (q_seq (q_set (c_mth _ (enc layout142) rfl (fun K hK => c_ok layout142 rfl hK) (c_cons (c_ok x163 rfl (c_nil (c_leaf (r_layout_brake layout142 x163) trivial fun brake165 => (q_put (i := 8) [.v (.d (enc layout142)), .v (.d (enc train143)), .v (.d (enc limits144)), .v (.d (enc least145)), .v (.d (enc greatest146)), .v (.ol (encs s147)), .v (.d (enc x163)), .v (.d (enc begin164)), .v (.d (enc brake165))] (ok_fre rfl w153) rfl (q_seq (q_if (c_okb (decide ((brake165 - begin164) < train143.length)) (p_tst (p_bin (x := enc (brake165 - begin164)) (y := enc train143.length) (p_bin (x := enc brake165) (y := enc begin164) rfl rfl rfl) (p_un (x := enc train143) rfl rfl) rfl)) (q_join (I := (fun (s : (List (T2 Str Int))) (ρ : Env) => ρ = [.v (.d (enc layout142)), .v (.d (enc train143)), .v (.d (enc limits144)), .v (.d (enc least145)), .v (.d (enc greatest146)), .v (.ol (encs s)), .v (.d (enc x163)), .v (.d (enc begin164)), .v (.d (enc brake165))])) (q_ite (fun _ => (q_lm (encs s147) (fun ys => [.v (.d (enc layout142)), .v (.d (enc train143)), .v (.d (enc limits144)), .v (.d (enc least145)), .v (.d (enc greatest146)), .v (.ol ys), .v (.d (enc x163)), .v (.d (enc begin164)), .v (.d (enc brake165))]) rfl (fun _ => rfl) (c_cons (c_ok (⟨("short" : Str), x163⟩ : (T2 Str Int)) (p_tup (p_cons (x := enc ("short" : Str)) rfl (p_cons (x := enc x163) rfl p_nil)) rfl) (c_nil (c_leaf (e := encs) (le_app s147 (⟨("short" : Str), x163⟩ : (T2 Str Int)) _ rfl) trivial fun found167 => (s_nx (s := found167) rfl))))))) (fun _ => (q_end (s_nx (s := s147) rfl)))) (by intro s166 ρ h; subst h; exact (q_seq (q_if (c_tst (c_bin (c_arg (c_cons (c_ok (cutG least145 (some begin164) (some (brake165 + (1 : Int)))) (p_sl (x := enc least145) rfl (p_part rfl) (p_part (p_bin (x := enc brake165) (y := enc (1 : Int)) rfl rfl rfl)) (k_cutD _ _ _)) (c_nil (c_leaf (le_min2 (cutG least145 (some begin164) (some (brake165 + (1 : Int))))) trivial fun v168 => (c_ok (0 : Int) rfl (c_ok (decide (v168 = (0 : Int))) (k_eq v168 (0 : Int)) (c_tru (q_join (I := (fun (s : (List (T2 Str Int))) (ρ : Env) => ρ = [.v (.d (enc layout142)), .v (.d (enc train143)), .v (.d (enc limits144)), .v (.d (enc least145)), .v (.d (enc greatest146)), .v (.ol (encs s)), .v (.d (enc x163)), .v (.d (enc begin164)), .v (.d (enc brake165))])) (q_ite (fun _ => (q_lm (encs s166) (fun ys => [.v (.d (enc layout142)), .v (.d (enc train143)), .v (.d (enc limits144)), .v (.d (enc least145)), .v (.d (enc greatest146)), .v (.ol ys), .v (.d (enc x163)), .v (.d (enc begin164)), .v (.d (enc brake165))]) rfl (fun _ => rfl) (c_cons (c_ok (⟨("stall" : Str), x163⟩ : (T2 Str Int)) (p_tup (p_cons (x := enc ("stall" : Str)) rfl (p_cons (x := enc x163) rfl p_nil)) rfl) (c_nil (c_leaf (e := encs) (le_app s166 (⟨("stall" : Str), x163⟩ : (T2 Str Int)) _ rfl) trivial fun found170 => (s_nx (s := found170) rfl))))))) (fun _ => (q_end (s_nx (s := s166) rfl)))) (by intro s169 ρ h; subst h; exact (q_if (c_tst (c_bin (c_bin (c_ok greatest146 rfl (c_ok brake165 rfl (c_leaf (le_idx greatest146 brake165) trivial fun v171 => (c_bin (c_ok limits144 rfl (c_ok brake165 rfl (c_leaf (le_idx limits144 brake165) trivial fun v172 => (c_ok (decide (v172 < v171)) rfl (c_tru (q_ite (fun _ => (q_lm (encs s169) (fun ys => [.v (.d (enc layout142)), .v (.d (enc train143)), .v (.d (enc limits144)), .v (.d (enc least145)), .v (.d (enc greatest146)), .v (.ol ys), .v (.d (enc x163)), .v (.d (enc begin164)), .v (.d (enc brake165))]) rfl (fun _ => rfl) (c_cons (c_ok (⟨("fast" : Str), x163⟩ : (T2 Str Int)) (p_tup (p_cons (x := enc ("fast" : Str)) rfl (p_cons (x := enc x163) rfl p_nil)) rfl) (c_nil (c_leaf (e := encs) (le_app s169 (⟨("fast" : Str), x163⟩ : (T2 Str Int)) _ rfl) trivial fun found173 => (s_nx (s := found173) ⟨.v (.d (enc x163)), .v (.d (enc begin164)), .v (.d (enc brake165)), rfl, (fre_v _), (fre_v _), (fre_v _)⟩))))))) (fun _ => (q_end (s_nx (s := s169) ⟨.v (.d (enc x163)), .v (.d (enc begin164)), .v (.d (enc brake165)), rfl, (fre_v _), (fre_v _), (fre_v _)⟩)))))))))))))))))))))))))))))))))))))))))))))))))))))) (by intro s154 ρ h; obtain ⟨u155, u157, u159, rfl, w156, w158, w160⟩ := h; exact (q_frz [.v (.d (enc layout142)), .v (.d (enc train143)), .v (.d (enc limits144)), .v (.d (enc least145)), .v (.d (enc greatest146)), .v (.d (enc s154)), u155, u157, u159] rfl (q_ret (c_ok s154 rfl (s_rt s154 rfl)))))))))))))))))))))))))))))))))))))))))))))))))
def t_check_segments (segments174 : (List (T3 Str Int Int))) : Res Unit :=
 (foldT (fun (x189 : (T3 Str Int Int)) (s175 : Unit) =>
 (if ((!decide (x189.a ∈ (TL.mk [("coast" : Str), ("lift" : Str), ("brake" : Str)] : (TL Str)).l)) || ((!((decide ((1 : Int) ≤ x189.b)) && (decide (x189.b ≤ (500 : Int))))) || (!((decide ((-100 : Int) ≤ x189.c)) && (decide (x189.c ≤ (100 : Int))))))) = true then
 (.err (.own 2))
 else (.ok ()))) segments174 () >>= fun s182 =>
 ((compS (fun _ => (.ok true)) (fun x190 =>
 (.ok x190.b)) segments174) >>= fun v191 =>
 (if (decide ((4000 : Int) < v191.sum)) = true then
 (.err (.own 2))
 else ((compS (fun _ => (.ok true)) (fun x192 =>
 ((mulT x192.b x192.c) >>= fun v193 =>
 (.ok v193))) segments174) >>= fun v194 =>
 (if (!decide (v194.sum = (0 : Int))) = true then
 (.err (.own 2))
 else (orR (decide ((segments174.length : Int) = (0 : Int))) ((idxT segments174 (-1 : Int)) >>= fun v195 =>
 (.ok (!decide (v195.a = ("brake" : Str))))) >>= fun b196 =>
 (if b196 = true then
 (.err (.own 2))
 else ((compS (fun x197 => (.ok (decide (x197.a = ("brake" : Str))))) (fun x197 =>
 (.ok x197.a)) segments174) >>= fun v198 =>
 (if (!((decide ((2 : Int) ≤ (v198.length : Int))) && (decide ((v198.length : Int) ≤ (12 : Int))))) = true then
 (.err (.own 2))
 else (.ok ()))))))))))
theorem r_check_segments (segments174 : (List (T3 Str Int Int))) : Le enc (m_check_segments [enc segments174]) (t_check_segments segments174) := by
  unfold m_check_segments b_check_segments t_check_segments
  exact le_fn [.v (.d (enc segments174)), .no, .no, .no, .no] rfl (q_seq (q_for (c_okg (encs segments174) (p_unF (x := enc segments174) rfl (k_seq _)) (q_fold (I := (fun (s : Unit) (ρ : Env) => ∃ u0 u1 u2 : Sl, ρ = [.v (.d (enc segments174)), u0, u1, u2, .no] ∧ fre u0 ∧ fre u1 ∧ fre u2)) (s0 := ()) ⟨.no, .no, .no, rfl, fre_no, fre_no, fre_no⟩ (by intro x189 s175 ρ h; obtain ⟨u176, u178, u180, rfl, w177, w179, w181⟩ := h; exact (q_opt [.v (.d (enc segments174)), .v (.d (enc x189.a)), .v (.d (enc x189.b)), .v (.d (enc x189.c)), .no] (g_q rfl (g_s (g_n (i := 1) (ok_fre rfl w177) rfl) (g_s (g_n (i := 2) (ok_fre rfl w179) rfl) (g_s (g_n (i := 3) (ok_fre rfl w181) rfl) g_0)))) (q_if (c_okb ((!decide (x189.a ∈ (TL.mk [("coast" : Str), ("lift" : Str), ("brake" : Str)] : (TL Str)).l)) || ((!((decide ((1 : Int) ≤ x189.b)) && (decide (x189.b ≤ (500 : Int))))) || (!((decide ((-100 : Int) ≤ x189.c)) && (decide (x189.c ≤ (100 : Int))))))) (p_or (p_tst (p_bin (x := enc x189.a) (y := enc (TL.mk [("coast" : Str), ("lift" : Str), ("brake" : Str)] : (TL Str))) rfl rfl (k_nint x189.a (TL.mk [("coast" : Str), ("lift" : Str), ("brake" : Str)] : (TL Str))))) (p_or (p_not (p_tst (p_chain (x := enc (1 : Int)) (y := enc x189.b) (z := enc (500 : Int)) rfl rfl rfl rfl rfl))) (p_not (p_tst (p_chain (x := enc (-100 : Int)) (y := enc x189.c) (z := enc (100 : Int)) (p_un (x := enc (100 : Int)) rfl rfl) rfl rfl rfl rfl))))) (q_ite (fun _ => (q_raise trivial)) (fun _ => (q_end (s_nx (s := ()) ⟨.v (.d (enc x189.a)), .v (.d (enc x189.b)), .v (.d (enc x189.c)), rfl, (fre_v _), (fre_v _), (fre_v _)⟩)))))))) (by intro s182 ρ h; obtain ⟨u183, u185, u187, rfl, w184, w186, w188⟩ := h; exact (q_seq (q_if (c_tst (c_bin (c_arg (c_cons (c_toE (c_comp (c_okg (encs segments174) (p_unF (x := enc segments174) rfl (k_seq _)) (c_leaf (e := encs) (le_comp [.v (.d (enc segments174)), u183, .no, u187, .no] rfl (fun x190 => [.v (.d (enc segments174)), u183, .v (.d (enc x190.b)), u187, .v (.d (enc x190.c))]) (fun x190 => rfl) (fun x190 => ⟨rfl⟩) (fun x190 => (le_sim (ρ := [.v (.d (enc segments174)), u183, .v (.d (enc x190.b)), u187, .v (.d (enc x190.c))]) (c_ok x190.b rfl (e_val x190.b rfl))))) trivial fun v191 => (c_nil (c_ok v191.sum (k_sum v191) (c_ok (4000 : Int) rfl (c_ok (decide ((4000 : Int) < v191.sum)) rfl (c_tru (q_ite (fun _ => (q_raise trivial)) (fun _ => (q_end (q_seq (q_if (c_tst (c_bin (c_arg (c_cons (c_toE (c_comp (c_okg (encs segments174) (p_unF (x := enc segments174) rfl (k_seq _)) (c_leaf (e := encs) (le_comp [.v (.d (enc segments174)), u183, .no, .no, .no] rfl (fun x192 => [.v (.d (enc segments174)), u183, .v (.d (enc x192.b)), .v (.d (enc x192.c)), .v (.d (enc x192.a))]) (fun x192 => rfl) (fun x192 => ⟨rfl⟩) (fun x192 => (le_sim (ρ := [.v (.d (enc segments174)), u183, .v (.d (enc x192.b)), .v (.d (enc x192.c)), .v (.d (enc x192.a))]) (c_bin (c_ok x192.b rfl (c_ok x192.c rfl (c_leaf (le_mul x192.b x192.c) trivial fun v193 => (e_val v193 rfl)))))))) trivial fun v194 => (c_nil (c_ok v194.sum (k_sum v194) (c_ok (0 : Int) rfl (c_ok (!decide (v194.sum = (0 : Int))) (k_ne v194.sum (0 : Int)) (c_tru (q_ite (fun _ => (q_raise trivial)) (fun _ => (q_end (q_seq (q_if (c_or (c_okb (decide ((segments174.length : Int) = (0 : Int))) (p_tst (p_bin (x := enc (segments174.length : Int)) (y := enc (0 : Int)) (p_arg (p_cons (x := enc segments174) rfl p_nil) (k_len segments174)) rfl (k_eq (segments174.length : Int) (0 : Int)))) (c_leaf (le_or fun _ => (le_simb (ρ := [.v (.d (enc segments174)), u183, u185, u187, .no]) (c_tst (c_bin (c_bin (c_bin (c_ok segments174 rfl (c_ok (-1 : Int) (p_un (x := enc (1 : Int)) rfl rfl) (c_leaf (le_idx segments174 (-1 : Int)) trivial fun v195 => (c_ok (0 : Int) rfl (c_ok v195.a rfl (c_ok ("brake" : Str) rfl (c_ok (!decide (v195.a = ("brake" : Str))) (k_ne v195.a ("brake" : Str)) (c_tru (e_val (!decide (v195.a = ("brake" : Str))) rfl))))))))))))))) trivial fun b196 => (q_ite (fun _ => (q_raise trivial)) (fun _ => (q_end (q_if (c_not (c_tst (c_chain (c_ok (2 : Int) rfl (c_arg (c_cons (c_toE (c_comp (c_okg (encs segments174) (p_unF (x := enc segments174) rfl (k_seq _)) (c_leaf (e := encs) (le_comp [.v (.d (enc segments174)), .no, u185, u187, .no] rfl (fun x197 => [.v (.d (enc segments174)), .v (.d (enc x197.a)), u185, u187, .v (.d (enc x197.c))]) (fun x197 => rfl) (fun x197 => (le_simb (ρ := [.v (.d (enc segments174)), .v (.d (enc x197.a)), u185, u187, .v (.d (enc x197.c))]) (c_okb (decide (x197.a = ("brake" : Str))) (p_tst (p_bin (x := enc x197.a) (y := enc ("brake" : Str)) rfl rfl (k_eq x197.a ("brake" : Str)))) (e_val (decide (x197.a = ("brake" : Str))) rfl)))) (fun x197 => (le_sim (ρ := [.v (.d (enc segments174)), .v (.d (enc x197.a)), u185, u187, .v (.d (enc x197.c))]) (c_ok x197.a rfl (e_val x197.a rfl))))) trivial fun v198 => (c_nil (c_ok (v198.length : Int) (k_len v198) (c_ok (decide ((2 : Int) ≤ (v198.length : Int))) rfl (c_tru (c_ok ((decide ((2 : Int) ≤ (v198.length : Int))) && (decide ((v198.length : Int) ≤ (12 : Int)))) (p_andMV (p_bnd (x := enc (12 : Int)) rfl rfl)) (c_tru (q_ite (fun _ => (q_raise trivial)) (fun _ => (q_end (s_nF () rfl))))))))))))))))))))))))))))))))))))))))))))))))))))))))))))))))))))))
def t_layout_init (segments200 : (List (T3 Str Int Int))) : Res C20 :=
 ((t_check_segments segments200) >>= fun v201 =>
 (foldT (fun (x224 : (T3 Str Int Int)) (s202 : ((List Int) × (List Int) × (List Int) × (List (T3 Str Int Int)))) =>
 ((if (decide (x224.a = ("brake" : Str))) = true then
 (appT s202.2.1 (s202.2.2.2.length : Int) >>= fun brakes226 =>
 (.ok brakes226))
 else (.ok s202.2.1) : Res (List Int)) >>= fun s225 =>
 (letT ((s202.1.length : Int) - (1 : Int)) fun block227 =>
 ((rngT x224.b) >>= fun v234 =>
 (foldT (fun (x235 : Int) (s228 : ((List Int) × (List (T3 Str Int Int)))) =>
 (appT s228.2 (⟨x224.a, x224.c, block227⟩ : (T3 Str Int Int)) >>= fun metres236 =>
 ((idxT s228.1 (-1 : Int)) >>= fun v237 =>
 (appT s228.1 (v237 + x224.c) >>= fun heights238 =>
 (.ok (heights238, metres236)))))) v234 (s202.2.2.1, s202.2.2.2) >>= fun s231 =>
 (if (decide (x224.a = ("brake" : Str))) = true then
 (appT s202.1 (s231.2.length : Int) >>= fun begins239 =>
 (.ok (begins239, s225, s231.1, s231.2)))
 else (.ok (s202.1, s225, s231.1, s231.2)))))))) segments200 (([(0 : Int)] : (List Int)), ([] : (List Int)), ([(0 : Int)] : (List Int)), ([] : (List (T3 Str Int Int)))) >>= fun s213 =>
 (.ok (⟨(TL.mk segments200), s213.2.2.2, s213.1, s213.2.1, s213.2.2.1⟩ : C20))))
theorem r_layout_init (segments200 : (List (T3 Str Int Int))) : Le e20 (m_layout_init [enc segments200]) (t_layout_init segments200) := by
  unfold m_layout_init b_layout_init t_layout_init
  exact le_in [.oo 20 [], .v (.d (enc segments200)), .no, .no, .no, .no, .no] rfl (q_seq (q_ex (c_arg (c_cons (c_ok segments200 rfl (c_nil (c_leaf (r_check_segments segments200) trivial fun v201 => (q_seq (q_sset [] (fun d => [.oo 20 [("segments", .d d)], .v (.d (enc segments200)), .no, .no, .no, .no, .no]) rfl rfl (fun _ => rfl) (c_ok (TL.mk segments200) (p_arg (p_cons (x := enc segments200) rfl p_nil) (k_tup segments200)) (q_seq (q_ssetO [("segments", .d (enc (TL.mk segments200)))] (fun d => [.oo 20 [("segments", .d (enc (TL.mk segments200))), ("metres", .ol d)], .v (.d (enc segments200)), .no, .no, .no, .no, .no]) rfl rfl (fun _ => rfl) (c_okg (encs ([] : (List (T3 Str Int Int)))) (p_lst p_nil rfl) (q_seq (q_ssetO [("segments", .d (enc (TL.mk segments200))), ("metres", .ol (encs ([] : (List (T3 Str Int Int)))))] (fun d => [.oo 20 [("segments", .d (enc (TL.mk segments200))), ("metres", .ol (encs ([] : (List (T3 Str Int Int))))), ("begins", .ol d)], .v (.d (enc segments200)), .no, .no, .no, .no, .no]) rfl rfl (fun _ => rfl) (c_okg (encs ([(0 : Int)] : (List Int))) (p_lst (p_cons (x := enc (0 : Int)) rfl p_nil) rfl) (q_seq (q_ssetO [("segments", .d (enc (TL.mk segments200))), ("metres", .ol (encs ([] : (List (T3 Str Int Int))))), ("begins", .ol (encs ([(0 : Int)] : (List Int))))] (fun d => [.oo 20 [("segments", .d (enc (TL.mk segments200))), ("metres", .ol (encs ([] : (List (T3 Str Int Int))))), ("begins", .ol (encs ([(0 : Int)] : (List Int)))), ("brakes", .ol d)], .v (.d (enc segments200)), .no, .no, .no, .no, .no]) rfl rfl (fun _ => rfl) (c_okg (encs ([] : (List Int))) (p_lst p_nil rfl) (q_seq (q_ssetO [("segments", .d (enc (TL.mk segments200))), ("metres", .ol (encs ([] : (List (T3 Str Int Int))))), ("begins", .ol (encs ([(0 : Int)] : (List Int)))), ("brakes", .ol (encs ([] : (List Int))))] (fun d => [.oo 20 [("segments", .d (enc (TL.mk segments200))), ("metres", .ol (encs ([] : (List (T3 Str Int Int))))), ("begins", .ol (encs ([(0 : Int)] : (List Int)))), ("brakes", .ol (encs ([] : (List Int)))), ("heights", .ol d)], .v (.d (enc segments200)), .no, .no, .no, .no, .no]) rfl rfl (fun _ => rfl) (c_okg (encs ([(0 : Int)] : (List Int))) (p_lst (p_cons (x := enc (0 : Int)) rfl p_nil) rfl) (q_for (c_okg (encs segments200) (p_unF (x := enc segments200) rfl (k_seq _)) (q_fold (I := (fun (s : ((List Int) × (List Int) × (List Int) × (List (T3 Str Int Int)))) (ρ : Env) => ∃ u0 u1 u2 u3 u4 : Sl, ρ = [.oo 20 [("segments", .d (enc (TL.mk segments200))), ("metres", .ol (encs s.2.2.2)), ("begins", .ol (encs s.1)), ("brakes", .ol (encs s.2.1)), ("heights", .ol (encs s.2.2.1))], .v (.d (enc segments200)), u0, u1, u2, u3, u4] ∧ fre u0 ∧ fre u1 ∧ fre u2 ∧ fre u3 ∧ fre u4)) (s0 := (([(0 : Int)] : (List Int)), ([] : (List Int)), ([(0 : Int)] : (List Int)), ([] : (List (T3 Str Int Int))))) ⟨.no, .no, .no, .no, .no, rfl, fre_no, fre_no, fre_no, fre_no, fre_no⟩ (by intro x224 s202 ρ h; obtain ⟨u203, u205, u207, u209, u211, rfl, w204, w206, w208, w210, w212⟩ := h; exact (q_opt [.oo 20 [("segments", .d (enc (TL.mk segments200))), ("metres", .ol (encs s202.2.2.2)), ("begins", .ol (encs s202.1)), ("brakes", .ol (encs s202.2.1)), ("heights", .ol (encs s202.2.2.1))], .v (.d (enc segments200)), .v (.d (enc x224.a)), .v (.d (enc x224.b)), .v (.d (enc x224.c)), u209, u211] (g_q rfl (g_s (g_n (i := 2) (ok_fre rfl w204) rfl) (g_s (g_n (i := 3) (ok_fre rfl w206) rfl) (g_s (g_n (i := 4) (ok_fre rfl w208) rfl) g_0)))) (q_seq (q_if (c_okb (decide (x224.a = ("brake" : Str))) (p_tst (p_bin (x := enc x224.a) (y := enc ("brake" : Str)) rfl rfl (k_eq x224.a ("brake" : Str)))) (q_join (I := (fun (s : (List Int)) (ρ : Env) => ρ = [.oo 20 [("segments", .d (enc (TL.mk segments200))), ("metres", .ol (encs s202.2.2.2)), ("begins", .ol (encs s202.1)), ("brakes", .ol (encs s)), ("heights", .ol (encs s202.2.2.1))], .v (.d (enc segments200)), .v (.d (enc x224.a)), .v (.d (enc x224.b)), .v (.d (enc x224.c)), u209, u211])) (q_ite (fun _ => (q_slm [("segments", .d (enc (TL.mk segments200))), ("metres", .ol (encs s202.2.2.2)), ("begins", .ol (encs s202.1)), ("brakes", .ol (encs s202.2.1)), ("heights", .ol (encs s202.2.2.1))] (encs s202.2.1) (fun ys => [.oo 20 [("segments", .d (enc (TL.mk segments200))), ("metres", .ol (encs s202.2.2.2)), ("begins", .ol (encs s202.1)), ("brakes", .ol ys), ("heights", .ol (encs s202.2.2.1))], .v (.d (enc segments200)), .v (.d (enc x224.a)), .v (.d (enc x224.b)), .v (.d (enc x224.c)), u209, u211]) rfl rfl (fun _ => rfl) (c_cons (c_ok (s202.2.2.2.length : Int) (p_arg (p_cons (x := enc s202.2.2.2) rfl p_nil) (k_len s202.2.2.2)) (c_nil (c_leaf (e := encs) (le_app s202.2.1 (s202.2.2.2.length : Int) _ rfl) trivial fun brakes226 => (s_nx (s := brakes226) rfl))))))) (fun _ => (q_end (s_nx (s := s202.2.1) rfl)))) (by intro s225 ρ h; subst h; exact (q_seq (q_set (c_okL ((s202.1.length : Int) - (1 : Int)) (p_bin (x := enc (s202.1.length : Int)) (y := enc (1 : Int)) (p_arg (p_cons (x := enc s202.1) rfl p_nil) (k_len s202.1)) rfl rfl) fun block227 => (q_put (i := 5) [.oo 20 [("segments", .d (enc (TL.mk segments200))), ("metres", .ol (encs s202.2.2.2)), ("begins", .ol (encs s202.1)), ("brakes", .ol (encs s225)), ("heights", .ol (encs s202.2.2.1))], .v (.d (enc segments200)), .v (.d (enc x224.a)), .v (.d (enc x224.b)), .v (.d (enc x224.c)), .v (.d (enc block227)), u211] (ok_fre rfl w210) rfl (q_seq (q_for (c_arg (c_cons (c_ok x224.b rfl (c_nil (c_leaf (e := encs) (le_rng x224.b) trivial fun v234 => (q_fold (I := (fun (s : ((List Int) × (List (T3 Str Int Int)))) (ρ : Env) => ∃ u0 : Sl, ρ = [.oo 20 [("segments", .d (enc (TL.mk segments200))), ("metres", .ol (encs s.2)), ("begins", .ol (encs s202.1)), ("brakes", .ol (encs s225)), ("heights", .ol (encs s.1))], .v (.d (enc segments200)), .v (.d (enc x224.a)), .v (.d (enc x224.b)), .v (.d (enc x224.c)), .v (.d (enc block227)), u0] ∧ fre u0)) (s0 := (s202.2.2.1, s202.2.2.2)) ⟨u211, rfl, w212⟩ (by intro x235 s228 ρ h; obtain ⟨u229, rfl, w230⟩ := h; exact (q_opt [.oo 20 [("segments", .d (enc (TL.mk segments200))), ("metres", .ol (encs s228.2)), ("begins", .ol (encs s202.1)), ("brakes", .ol (encs s225)), ("heights", .ol (encs s228.1))], .v (.d (enc segments200)), .v (.d (enc x224.a)), .v (.d (enc x224.b)), .v (.d (enc x224.c)), .v (.d (enc block227)), .v (.d (enc x235))] (g_n (i := 6) (ok_fre rfl w230) rfl) (q_seq (q_slm [("segments", .d (enc (TL.mk segments200))), ("metres", .ol (encs s228.2)), ("begins", .ol (encs s202.1)), ("brakes", .ol (encs s225)), ("heights", .ol (encs s228.1))] (encs s228.2) (fun ys => [.oo 20 [("segments", .d (enc (TL.mk segments200))), ("metres", .ol ys), ("begins", .ol (encs s202.1)), ("brakes", .ol (encs s225)), ("heights", .ol (encs s228.1))], .v (.d (enc segments200)), .v (.d (enc x224.a)), .v (.d (enc x224.b)), .v (.d (enc x224.c)), .v (.d (enc block227)), .v (.d (enc x235))]) rfl rfl (fun _ => rfl) (c_cons (c_ok (⟨x224.a, x224.c, block227⟩ : (T3 Str Int Int)) (p_tup (p_cons (x := enc x224.a) rfl (p_cons (x := enc x224.c) rfl (p_cons (x := enc block227) rfl p_nil))) rfl) (c_nil (c_leaf (e := encs) (le_app s228.2 (⟨x224.a, x224.c, block227⟩ : (T3 Str Int Int)) _ rfl) trivial fun metres236 => (q_slm [("segments", .d (enc (TL.mk segments200))), ("metres", .ol (encs metres236)), ("begins", .ol (encs s202.1)), ("brakes", .ol (encs s225)), ("heights", .ol (encs s228.1))] (encs s228.1) (fun ys => [.oo 20 [("segments", .d (enc (TL.mk segments200))), ("metres", .ol (encs metres236)), ("begins", .ol (encs s202.1)), ("brakes", .ol (encs s225)), ("heights", .ol ys)], .v (.d (enc segments200)), .v (.d (enc x224.a)), .v (.d (enc x224.b)), .v (.d (enc x224.c)), .v (.d (enc block227)), .v (.d (enc x235))]) rfl rfl (fun _ => rfl) (c_cons (c_bin (c_bin (c_ok s228.1 rfl (c_ok (-1 : Int) (p_un (x := enc (1 : Int)) rfl rfl) (c_leaf (le_idx s228.1 (-1 : Int)) trivial fun v237 => (c_ok x224.c rfl (c_ok (v237 + x224.c) rfl (c_nil (c_leaf (e := encs) (le_app s228.1 (v237 + x224.c) _ rfl) trivial fun heights238 => (s_nx (s := (heights238, metres236)) ⟨.v (.d (enc x235)), rfl, (fre_v _)⟩)))))))))))))))))))) (by intro s231 ρ h; obtain ⟨u232, rfl, w233⟩ := h; exact (q_if (c_okb (decide (x224.a = ("brake" : Str))) (p_tst (p_bin (x := enc x224.a) (y := enc ("brake" : Str)) rfl rfl (k_eq x224.a ("brake" : Str)))) (q_ite (fun _ => (q_slm [("segments", .d (enc (TL.mk segments200))), ("metres", .ol (encs s231.2)), ("begins", .ol (encs s202.1)), ("brakes", .ol (encs s225)), ("heights", .ol (encs s231.1))] (encs s202.1) (fun ys => [.oo 20 [("segments", .d (enc (TL.mk segments200))), ("metres", .ol (encs s231.2)), ("begins", .ol ys), ("brakes", .ol (encs s225)), ("heights", .ol (encs s231.1))], .v (.d (enc segments200)), .v (.d (enc x224.a)), .v (.d (enc x224.b)), .v (.d (enc x224.c)), .v (.d (enc block227)), u232]) rfl rfl (fun _ => rfl) (c_cons (c_ok (s231.2.length : Int) (p_arg (p_cons (x := enc s231.2) rfl p_nil) (k_len s231.2)) (c_nil (c_leaf (e := encs) (le_app s202.1 (s231.2.length : Int) _ rfl) trivial fun begins239 => (s_nx (s := (begins239, s225, s231.1, s231.2)) ⟨.v (.d (enc x224.a)), .v (.d (enc x224.b)), .v (.d (enc x224.c)), .v (.d (enc block227)), u232, rfl, (fre_v _), (fre_v _), (fre_v _), (fre_v _), w233⟩))))))) (fun _ => (q_end (s_nx (s := (s202.1, s225, s231.1, s231.2)) ⟨.v (.d (enc x224.a)), .v (.d (enc x224.b)), .v (.d (enc x224.c)), .v (.d (enc block227)), u232, rfl, (fre_v _), (fre_v _), (fre_v _), (fre_v _), w233⟩)))))))))))))))))))))))))) (by intro s213 ρ h; obtain ⟨u214, u216, u218, u220, u222, rfl, w215, w217, w219, w221, w223⟩ := h; exact (s_in (⟨(TL.mk segments200), s213.2.2.2, s213.1, s213.2.1, s213.2.2.1⟩ : C20) rfl rfl)))))))))))))))))))))))))))
def t_train_init (length241 : Int) (friction242 : (T2 Int Int)) (brake243 : (T2 Int Int)) (lift244 : Int) (drive245 : Int) : Res C21 :=
 (if (!((decide ((1 : Int) ≤ length241)) && (decide (length241 ≤ (100 : Int))))) = true then
 (.err (.own 3))
 else ((t_is_interval friction242) >>= fun v246 =>
 (if ((!v246) || ((decide (friction242.a < (0 : Int))) || (decide ((100000 : Int) < friction242.b)))) = true then
 (.err (.own 3))
 else ((t_is_interval brake243) >>= fun v247 =>
 (if ((!v247) || ((decide (brake243.a < (1 : Int))) || (decide ((1000000 : Int) < brake243.b)))) = true then
 (.err (.own 3))
 else (if ((!((decide ((1 : Int) ≤ lift244)) && (decide (lift244 ≤ (10000000 : Int))))) || (!((decide ((1 : Int) ≤ drive245)) && (decide (drive245 ≤ (10000000 : Int)))))) = true then
 (.err (.own 3))
 else (.ok (⟨length241, friction242, brake243, lift244, drive245⟩ : C21))))))))
theorem r_train_init (length241 : Int) (friction242 : (T2 Int Int)) (brake243 : (T2 Int Int)) (lift244 : Int) (drive245 : Int) : Le e21 (m_train_init [enc length241, enc friction242, enc brake243, enc lift244, enc drive245]) (t_train_init length241 friction242 brake243 lift244 drive245) := by
  unfold m_train_init b_train_init t_train_init
  exact le_in [.oo 21 [], .v (.d (enc length241)), .v (.d (enc friction242)), .v (.d (enc brake243)), .v (.d (enc lift244)), .v (.d (enc drive245))] rfl (q_seq (q_if (c_okb (!((decide ((1 : Int) ≤ length241)) && (decide (length241 ≤ (100 : Int))))) (p_not (p_tst (p_chain (x := enc (1 : Int)) (y := enc length241) (z := enc (100 : Int)) rfl rfl rfl rfl rfl))) (q_ite (fun _ => (q_raise trivial)) (fun _ => (q_end (q_seq (q_if (c_or (c_not (c_tst (c_arg (c_cons (c_ok friction242 rfl (c_nil (c_leaf (r_is_interval friction242) trivial fun v246 => (c_tru (c_okb ((!v246) || ((decide (friction242.a < (0 : Int))) || (decide ((100000 : Int) < friction242.b)))) (p_orM (p_or (p_tst (p_bin (x := enc friction242.a) (y := enc (0 : Int)) (p_bin (x := enc friction242) (y := enc (0 : Int)) rfl rfl rfl) rfl rfl)) (p_tst (p_bin (x := enc friction242.b) (y := enc (100000 : Int)) (p_bin (x := enc friction242) (y := enc (1 : Int)) rfl rfl rfl) rfl rfl)))) (q_ite (fun _ => (q_raise trivial)) (fun _ => (q_end (q_seq (q_if (c_or (c_not (c_tst (c_arg (c_cons (c_ok brake243 rfl (c_nil (c_leaf (r_is_interval brake243) trivial fun v247 => (c_tru (c_okb ((!v247) || ((decide (brake243.a < (1 : Int))) || (decide ((1000000 : Int) < brake243.b)))) (p_orM (p_or (p_tst (p_bin (x := enc brake243.a) (y := enc (1 : Int)) (p_bin (x := enc brake243) (y := enc (0 : Int)) rfl rfl rfl) rfl rfl)) (p_tst (p_bin (x := enc brake243.b) (y := enc (1000000 : Int)) (p_bin (x := enc brake243) (y := enc (1 : Int)) rfl rfl rfl) rfl rfl)))) (q_ite (fun _ => (q_raise trivial)) (fun _ => (q_end (q_seq (q_if (c_okb ((!((decide ((1 : Int) ≤ lift244)) && (decide (lift244 ≤ (10000000 : Int))))) || (!((decide ((1 : Int) ≤ drive245)) && (decide (drive245 ≤ (10000000 : Int)))))) (p_or (p_not (p_tst (p_chain (x := enc (1 : Int)) (y := enc lift244) (z := enc (10000000 : Int)) rfl rfl rfl rfl rfl))) (p_not (p_tst (p_chain (x := enc (1 : Int)) (y := enc drive245) (z := enc (10000000 : Int)) rfl rfl rfl rfl rfl)))) (q_ite (fun _ => (q_raise trivial)) (fun _ => (q_end (q_seq (q_sset [] (fun d => [.oo 21 [("length", .d d)], .v (.d (enc length241)), .v (.d (enc friction242)), .v (.d (enc brake243)), .v (.d (enc lift244)), .v (.d (enc drive245))]) rfl rfl (fun _ => rfl) (c_ok length241 rfl (q_seq (q_sset [("length", .d (enc length241))] (fun d => [.oo 21 [("length", .d (enc length241)), ("friction", .d d)], .v (.d (enc length241)), .v (.d (enc friction242)), .v (.d (enc brake243)), .v (.d (enc lift244)), .v (.d (enc drive245))]) rfl rfl (fun _ => rfl) (c_ok friction242 rfl (q_seq (q_sset [("length", .d (enc length241)), ("friction", .d (enc friction242))] (fun d => [.oo 21 [("length", .d (enc length241)), ("friction", .d (enc friction242)), ("brake", .d d)], .v (.d (enc length241)), .v (.d (enc friction242)), .v (.d (enc brake243)), .v (.d (enc lift244)), .v (.d (enc drive245))]) rfl rfl (fun _ => rfl) (c_ok brake243 rfl (q_seq (q_sset [("length", .d (enc length241)), ("friction", .d (enc friction242)), ("brake", .d (enc brake243))] (fun d => [.oo 21 [("length", .d (enc length241)), ("friction", .d (enc friction242)), ("brake", .d (enc brake243)), ("lift", .d d)], .v (.d (enc length241)), .v (.d (enc friction242)), .v (.d (enc brake243)), .v (.d (enc lift244)), .v (.d (enc drive245))]) rfl rfl (fun _ => rfl) (c_ok lift244 rfl (q_sset [("length", .d (enc length241)), ("friction", .d (enc friction242)), ("brake", .d (enc brake243)), ("lift", .d (enc lift244))] (fun d => [.oo 21 [("length", .d (enc length241)), ("friction", .d (enc friction242)), ("brake", .d (enc brake243)), ("lift", .d (enc lift244)), ("drive", .d d)], .v (.d (enc length241)), .v (.d (enc friction242)), .v (.d (enc brake243)), .v (.d (enc lift244)), .v (.d (enc drive245))]) rfl rfl (fun _ => rfl) (c_ok drive245 rfl (s_in (⟨length241, friction242, brake243, lift244, drive245⟩ : C21) rfl rfl)))))))))))))))))))))))))))))))))))))))))))))))))))))))))
def t_law_cell (script248 : Scr) (k249 : Int) : Res Int :=
 (if (decide (k249 < (script248.l.length : Int))) = true then
 ((idxT script248.l k249) >>= fun v250 =>
 (.ok (if v250 < 0 then -v250 else v250)))
 else (.ok (0 : Int)))
theorem r_law_cell (script248 : Scr) (k249 : Int) : Le enc (m_law_cell [enc script248, enc k249]) (t_law_cell script248 k249) := by
  unfold m_law_cell b_law_cell t_law_cell
  exact le_fn [.v (.d (enc script248)), .v (.d (enc k249))] rfl (q_seq (q_if (c_okb (decide (k249 < (script248.l.length : Int))) (p_tst (p_bin (x := enc k249) (y := enc (script248.l.length : Int)) rfl (p_arg (p_cons (x := enc script248) rfl p_nil) (k_lens script248)) rfl)) (q_ite (fun _ => (q_ret (c_arg (c_cons (c_arg (c_cons (c_bin (c_ok script248 rfl (c_ok k249 rfl (c_leaf (le_idxs script248 k249) trivial fun v250 => (c_nil (c_ok v250 rfl (c_nil (c_ok (if v250 < 0 then -v250 else v250) rfl (s_rt (if v250 < 0 then -v250 else v250) rfl))))))))))))))) (fun _ => (q_end (q_ret (c_ok (0 : Int) rfl (s_rt (0 : Int) rfl)))))))))
def t_law_draws (cell251 : Int) (count252 : Int) : Res (List Int) :=
 ((rngT count252) >>= fun v263 =>
 (foldT (fun (x264 : Int) (s253 : ((List Int) × Int)) =>
 (if ((decide ((1000000000000000000 : Int) ≤ cell251)) && (decide ((0 : Int) < s253.2))) = true then
 (appT s253.1 (s253.2 % (4096 : Int)) >>= fun rows265 =>
 (letT (s253.2 / (4096 : Int)) fun left266 =>
 (.ok (rows265, left266))))
 else (letT (((cell251 * (48271 : Int)) + ((x264 + (1 : Int)) * (69621 : Int))) % (2147483647 : Int)) fun mixed267 =>
 ((mulT mixed267 mixed267) >>= fun v268 =>
 ((mulT (((v268 + (mixed267 * (16807 : Int))) + (x264 * (7919 : Int))) % (2147483629 : Int)) (((v268 + (mixed267 * (16807 : Int))) + (x264 * (7919 : Int))) % (2147483629 : Int))) >>= fun v269 =>
 (appT s253.1 (((((v269 + cell251) + ((13 : Int) * x264)) % (2147483587 : Int)) / (7 : Int)) % (4096 : Int)) >>= fun rows270 =>
 (.ok (rows270, s253.2)))))))) v263 (([] : (List Int)), cell251) >>= fun s258 =>
 (.ok s258.1)))
theorem r_law_draws (cell251 : Int) (count252 : Int) : Le enc (m_law_draws [enc cell251, enc count252]) (t_law_draws cell251 count252) := by
  unfold m_law_draws b_law_draws t_law_draws
  exact le_fn [.v (.d (enc cell251)), .v (.d (enc count252)), .no, .no, .no, .no] rfl (q_seq (q_setO (c_okg (encs ([] : (List Int))) (p_lst p_nil rfl) (q_put (i := 2) [.v (.d (enc cell251)), .v (.d (enc count252)), .v (.ol (encs ([] : (List Int)))), .no, .no, .no] rfl rfl (q_seq (q_set (c_ok cell251 rfl (q_put (i := 3) [.v (.d (enc cell251)), .v (.d (enc count252)), .v (.ol (encs ([] : (List Int)))), .v (.d (enc cell251)), .no, .no] rfl rfl (q_seq (q_for (c_arg (c_cons (c_ok count252 rfl (c_nil (c_leaf (e := encs) (le_rng count252) trivial fun v263 => (q_fold (I := (fun (s : ((List Int) × Int)) (ρ : Env) => ∃ u0 u1 : Sl, ρ = [.v (.d (enc cell251)), .v (.d (enc count252)), .v (.ol (encs s.1)), .v (.d (enc s.2)), u0, u1] ∧ fre u0 ∧ fre u1)) (s0 := (([] : (List Int)), cell251)) ⟨.no, .no, rfl, fre_no, fre_no⟩ (by intro x264 s253 ρ h; obtain ⟨u254, u256, rfl, w255, w257⟩ := h; exact (q_opt [.v (.d (enc cell251)), .v (.d (enc count252)), .v (.ol (encs s253.1)), .v (.d (enc s253.2)), .v (.d (enc x264)), u256] (g_n (i := 4) (ok_fre rfl w255) rfl) (q_if (c_okb ((decide ((1000000000000000000 : Int) ≤ cell251)) && (decide ((0 : Int) < s253.2))) (p_and (p_tst (p_bin (x := enc cell251) (y := enc (1000000000000000000 : Int)) rfl (p_bin (x := enc (10 : Int)) (y := enc (18 : Int)) rfl rfl (k_pow (10 : Int) (18 : Int) (1000000000000000000 : Int) (by decide) (by decide))) rfl)) (p_tst (p_bin (x := enc s253.2) (y := enc (0 : Int)) rfl rfl rfl))) (q_ite (fun _ => (q_seq (q_lm (encs s253.1) (fun ys => [.v (.d (enc cell251)), .v (.d (enc count252)), .v (.ol ys), .v (.d (enc s253.2)), .v (.d (enc x264)), u256]) rfl (fun _ => rfl) (c_cons (c_ok (s253.2 % (4096 : Int)) (p_bin (x := enc s253.2) (y := enc (4096 : Int)) (p_arg (p_cons (x := enc s253.2) rfl p_nil) rfl) rfl (k_mod s253.2 (4096 : Int) (by decide))) (c_nil (c_leaf (e := encs) (le_app s253.1 (s253.2 % (4096 : Int)) _ rfl) trivial fun rows265 => (q_set (c_okL (s253.2 / (4096 : Int)) (p_bin (x := enc s253.2) (y := enc (4096 : Int)) rfl rfl (k_fdiv s253.2 (4096 : Int) (by decide))) fun left266 => (q_put (i := 3) [.v (.d (enc cell251)), .v (.d (enc count252)), .v (.ol (encs rows265)), .v (.d (enc left266)), .v (.d (enc x264)), u256] rfl rfl (s_nx (s := (rows265, left266)) ⟨.v (.d (enc x264)), u256, rfl, (fre_v _), w257⟩))))))))))) (fun _ => (q_seq (q_set (c_okL (((cell251 * (48271 : Int)) + ((x264 + (1 : Int)) * (69621 : Int))) % (2147483647 : Int)) (p_bin (x := enc ((cell251 * (48271 : Int)) + ((x264 + (1 : Int)) * (69621 : Int)))) (y := enc (2147483647 : Int)) (p_arg (p_cons (x := enc ((cell251 * (48271 : Int)) + ((x264 + (1 : Int)) * (69621 : Int)))) (p_bin (x := enc (cell251 * (48271 : Int))) (y := enc ((x264 + (1 : Int)) * (69621 : Int))) (p_bin (x := enc cell251) (y := enc (48271 : Int)) rfl rfl (k_mulr cell251 (48271 : Int) (by decide))) (p_bin (x := enc (x264 + (1 : Int))) (y := enc (69621 : Int)) (p_bin (x := enc x264) (y := enc (1 : Int)) rfl rfl rfl) rfl (k_mulr (x264 + (1 : Int)) (69621 : Int) (by decide))) rfl) p_nil) rfl) rfl (k_mod ((cell251 * (48271 : Int)) + ((x264 + (1 : Int)) * (69621 : Int))) (2147483647 : Int) (by decide))) fun mixed267 => (q_put (i := 5) [.v (.d (enc cell251)), .v (.d (enc count252)), .v (.ol (encs s253.1)), .v (.d (enc s253.2)), .v (.d (enc x264)), .v (.d (enc mixed267))] (ok_fre rfl w257) rfl (q_seq (q_set (c_bin (c_arg (c_cons (c_bin (c_bin (c_bin (c_ok mixed267 rfl (c_ok mixed267 rfl (c_leaf (le_mul mixed267 mixed267) trivial fun v268 => (c_ok (mixed267 * (16807 : Int)) (p_bin (x := enc mixed267) (y := enc (16807 : Int)) rfl rfl (k_mulr mixed267 (16807 : Int) (by decide))) (c_ok (v268 + (mixed267 * (16807 : Int))) rfl (c_ok (x264 * (7919 : Int)) (p_bin (x := enc x264) (y := enc (7919 : Int)) rfl rfl (k_mulr x264 (7919 : Int) (by decide))) (c_ok ((v268 + (mixed267 * (16807 : Int))) + (x264 * (7919 : Int))) rfl (c_nil (c_ok ((v268 + (mixed267 * (16807 : Int))) + (x264 * (7919 : Int))) rfl (c_ok (2147483629 : Int) rfl (c_ok (((v268 + (mixed267 * (16807 : Int))) + (x264 * (7919 : Int))) % (2147483629 : Int)) (k_mod ((v268 + (mixed267 * (16807 : Int))) + (x264 * (7919 : Int))) (2147483629 : Int) (by decide)) (q_put (i := 5) [.v (.d (enc cell251)), .v (.d (enc count252)), .v (.ol (encs s253.1)), .v (.d (enc s253.2)), .v (.d (enc x264)), .v (.d (enc (((v268 + (mixed267 * (16807 : Int))) + (x264 * (7919 : Int))) % (2147483629 : Int))))] rfl rfl (q_seq (q_set (c_bin (c_arg (c_cons (c_bin (c_bin (c_bin (c_ok (((v268 + (mixed267 * (16807 : Int))) + (x264 * (7919 : Int))) % (2147483629 : Int)) rfl (c_ok (((v268 + (mixed267 * (16807 : Int))) + (x264 * (7919 : Int))) % (2147483629 : Int)) rfl (c_leaf (le_mul (((v268 + (mixed267 * (16807 : Int))) + (x264 * (7919 : Int))) % (2147483629 : Int)) (((v268 + (mixed267 * (16807 : Int))) + (x264 * (7919 : Int))) % (2147483629 : Int))) trivial fun v269 => (c_ok cell251 rfl (c_ok (v269 + cell251) rfl (c_ok ((13 : Int) * x264) (p_bin (x := enc (13 : Int)) (y := enc x264) rfl rfl (k_mull (13 : Int) x264 (by decide))) (c_ok ((v269 + cell251) + ((13 : Int) * x264)) rfl (c_nil (c_ok ((v269 + cell251) + ((13 : Int) * x264)) rfl (c_ok (2147483587 : Int) rfl (c_ok (((v269 + cell251) + ((13 : Int) * x264)) % (2147483587 : Int)) (k_mod ((v269 + cell251) + ((13 : Int) * x264)) (2147483587 : Int) (by decide)) (q_put (i := 5) [.v (.d (enc cell251)), .v (.d (enc count252)), .v (.ol (encs s253.1)), .v (.d (enc s253.2)), .v (.d (enc x264)), .v (.d (enc (((v269 + cell251) + ((13 : Int) * x264)) % (2147483587 : Int))))] rfl rfl (q_lm (encs s253.1) (fun ys => [.v (.d (enc cell251)), .v (.d (enc count252)), .v (.ol ys), .v (.d (enc s253.2)), .v (.d (enc x264)), .v (.d (enc (((v269 + cell251) + ((13 : Int) * x264)) % (2147483587 : Int))))]) rfl (fun _ => rfl) (c_cons (c_ok (((((v269 + cell251) + ((13 : Int) * x264)) % (2147483587 : Int)) / (7 : Int)) % (4096 : Int)) (p_bin (x := enc ((((v269 + cell251) + ((13 : Int) * x264)) % (2147483587 : Int)) / (7 : Int))) (y := enc (4096 : Int)) (p_bin (x := enc (((v269 + cell251) + ((13 : Int) * x264)) % (2147483587 : Int))) (y := enc (7 : Int)) rfl rfl (k_fdiv (((v269 + cell251) + ((13 : Int) * x264)) % (2147483587 : Int)) (7 : Int) (by decide))) rfl (k_mod ((((v269 + cell251) + ((13 : Int) * x264)) % (2147483587 : Int)) / (7 : Int)) (4096 : Int) (by decide))) (c_nil (c_leaf (e := encs) (le_app s253.1 (((((v269 + cell251) + ((13 : Int) * x264)) % (2147483587 : Int)) / (7 : Int)) % (4096 : Int)) _ rfl) trivial fun rows270 => (s_nx (s := (rows270, s253.2)) ⟨.v (.d (enc x264)), .v (.d (enc (((v269 + cell251) + ((13 : Int) * x264)) % (2147483587 : Int)))), rfl, (fre_v _), (fre_v _)⟩)))))))))))))))))))))))))))))))))))))))))))))))))))))))) (by intro s258 ρ h; obtain ⟨u259, u261, rfl, w260, w262⟩ := h; exact (q_frz [.v (.d (enc cell251)), .v (.d (enc count252)), .v (.d (enc s258.1)), .v (.d (enc s258.2)), u259, u261] rfl (q_ret (c_ok s258.1 rfl (s_rt s258.1 rfl)))))))))))))))))))))
def t_law_drawn_segments (draws271 : (List Int)) (most272 : Int) : Res (List (T3 Str Int Int)) :=
 ((idxT draws271 (0 : Int)) >>= fun v273 =>
 ((rngT ((2 : Int) + (v273 % (2 : Int)))) >>= fun v304 =>
 (foldT (fun (x305 : Int) (s274 : ((List (T3 Str Int Int)) × Int)) =>
 ((idxT draws271 ((1 : Int) + x305)) >>= fun v328 =>
 ((rngT (v328 % (3 : Int))) >>= fun v329 =>
 (foldT (fun (x330 : Int) (s306 : ((List (T3 Str Int Int)) × Int)) =>
 ((idxT draws271 (((4 : Int) + ((3 : Int) * x305)) + x330)) >>= fun draw331 =>
 ((idxT ([("coast" : Str), ("coast" : Str), ("lift" : Str)] : (List Str)) (draw331 % (3 : Int))) >>= fun kind332 =>
 (letT (((draw331 / (3 : Int)) % (61 : Int)) - (30 : Int)) fun slope333 =>
 ((modT (draw331 / (200 : Int)) most272) >>= fun v334 =>
 (appT s306.1 (⟨kind332, ((1 : Int) + v334), slope333⟩ : (T3 Str Int Int)) >>= fun rows335 =>
 ((mulT ((1 : Int) + v334) slope333) >>= fun v336 =>
 (.ok (rows335, (s306.2 + v336)))))))))) v329 (s274.1, s274.2) >>= fun s317 =>
 ((idxT draws271 ((17 : Int) + x305)) >>= fun v337 =>
 ((idxT draws271 ((14 : Int) + x305)) >>= fun v338 =>
 (appT s317.1 (⟨("brake" : Str), ((1 : Int) + (v338 % (6 : Int))), ((v337 % (5 : Int)) - (2 : Int))⟩ : (T3 Str Int Int)) >>= fun rows339 =>
 ((idxT rows339 (-1 : Int)) >>= fun v340 =>
 ((mulT v340.b ((v337 % (5 : Int)) - (2 : Int))) >>= fun v341 =>
 (.ok (rows339, (s317.2 + v341)))))))))))) v304 (([] : (List (T3 Str Int Int))), (0 : Int)) >>= fun s289 =>
 ((idxT draws271 (20 : Int)) >>= fun v342 =>
 ((modT v342 (s289.1.length : Int)) >>= fun v343 =>
 ((idxT draws271 (22 : Int)) >>= fun v344 =>
 ((idxT ([(1 : Int), (1 : Int), (1 : Int), (1 : Int), (300 : Int)] : (List Int)) (v344 % (5 : Int))) >>= fun v345 =>
 (insT s289.1 v343 (⟨("coast" : Str), v345, (0 : Int)⟩ : (T3 Str Int Int)) >>= fun rows346 =>
 (letT (-s289.2) fun left347 =>
 ((rngT (40 : Int)) >>= fun v358 =>
 (foldT (fun (x359 : Int) (s348 : ((List (T3 Str Int Int)) × Int)) =>
 (if (!decide (s348.2 = (0 : Int))) = true then
 (letT (max (-90 : Int) (min (90 : Int) s348.2)) fun slope360 =>
 ((idxT (TL.mk [("coast" : Str), ("lift" : Str)] : (TL Str)).l (if (decide ((0 : Int) < slope360)) = true then (1 : Int) else 0)) >>= fun v361 =>
 ((idxT draws271 (21 : Int)) >>= fun v362 =>
 ((idxT ([v361, ("coast" : Str)] : (List Str)) (v362 % (2 : Int))) >>= fun v363 =>
 (insT s348.1 (0 : Int) (⟨v363, (1 : Int), slope360⟩ : (T3 Str Int Int)) >>= fun rows364 =>
 (letT (s348.2 - slope360) fun left365 =>
 (.ok (rows364, left365))))))))
 else (.ok (s348.1, s348.2)))) v358 (rows346, left347) >>= fun s353 =>
 (.ok s353.1))))))))))))
theorem r_law_drawn_segments (draws271 : (List Int)) (most272 : Int) : Le enc (m_law_drawn_segments [enc draws271, enc most272]) (t_law_drawn_segments draws271 most272) := by
  unfold m_law_drawn_segments b_law_drawn_segments t_law_drawn_segments
  exact le_fn [.v (.d (enc draws271)), .v (.d (enc most272)), .no, .no, .no, .no, .no, .no, .no, .no, .no, .no, .no] rfl (q_seq (q_set (c_bin (c_ok (2 : Int) rfl (c_bin (c_bin (c_ok draws271 rfl (c_ok (0 : Int) rfl (c_leaf (le_idx draws271 (0 : Int)) trivial fun v273 => (c_ok (2 : Int) rfl (c_ok (v273 % (2 : Int)) (k_mod v273 (2 : Int) (by decide)) (c_ok ((2 : Int) + (v273 % (2 : Int))) rfl (q_put (i := 2) [.v (.d (enc draws271)), .v (.d (enc most272)), .v (.d (enc ((2 : Int) + (v273 % (2 : Int))))), .no, .no, .no, .no, .no, .no, .no, .no, .no, .no] rfl rfl (q_seq (q_setO (c_okg (encs ([] : (List (T3 Str Int Int)))) (p_lst p_nil rfl) (q_put (i := 3) [.v (.d (enc draws271)), .v (.d (enc most272)), .v (.d (enc ((2 : Int) + (v273 % (2 : Int))))), .v (.ol (encs ([] : (List (T3 Str Int Int))))), .no, .no, .no, .no, .no, .no, .no, .no, .no] rfl rfl (q_seq (q_set (c_ok (0 : Int) rfl (q_put (i := 4) [.v (.d (enc draws271)), .v (.d (enc most272)), .v (.d (enc ((2 : Int) + (v273 % (2 : Int))))), .v (.ol (encs ([] : (List (T3 Str Int Int))))), .v (.d (enc (0 : Int))), .no, .no, .no, .no, .no, .no, .no, .no] rfl rfl (q_seq (q_for (c_arg (c_cons (c_ok ((2 : Int) + (v273 % (2 : Int))) rfl (c_nil (c_leaf (e := encs) (le_rng ((2 : Int) + (v273 % (2 : Int)))) trivial fun v304 => (q_fold (I := (fun (s : ((List (T3 Str Int Int)) × Int)) (ρ : Env) => ∃ u0 u1 u2 u3 u4 u5 u6 : Sl, ρ = [.v (.d (enc draws271)), .v (.d (enc most272)), .v (.d (enc ((2 : Int) + (v273 % (2 : Int))))), .v (.ol (encs s.1)), .v (.d (enc s.2)), u0, .no, u1, u2, u3, u4, u5, u6] ∧ fre u0 ∧ fre u1 ∧ fre u2 ∧ fre u3 ∧ fre u4 ∧ fre u5 ∧ fre u6)) (s0 := (([] : (List (T3 Str Int Int))), (0 : Int))) ⟨.no, .no, .no, .no, .no, .no, .no, rfl, fre_no, fre_no, fre_no, fre_no, fre_no, fre_no, fre_no⟩ (by intro x305 s274 ρ h; obtain ⟨u275, u277, u279, u281, u283, u285, u287, rfl, w276, w278, w280, w282, w284, w286, w288⟩ := h; exact (q_opt [.v (.d (enc draws271)), .v (.d (enc most272)), .v (.d (enc ((2 : Int) + (v273 % (2 : Int))))), .v (.ol (encs s274.1)), .v (.d (enc s274.2)), .v (.d (enc x305)), .no, u277, u279, u281, u283, u285, u287] (g_n (i := 5) (ok_fre rfl w276) rfl) (q_seq (q_for (c_arg (c_cons (c_bin (c_bin (c_ok draws271 rfl (c_ok ((1 : Int) + x305) (p_bin (x := enc (1 : Int)) (y := enc x305) rfl rfl rfl) (c_leaf (le_idx draws271 ((1 : Int) + x305)) trivial fun v328 => (c_ok (3 : Int) rfl (c_ok (v328 % (3 : Int)) (k_mod v328 (3 : Int) (by decide)) (c_nil (c_leaf (e := encs) (le_rng (v328 % (3 : Int))) trivial fun v329 => (q_fold (I := (fun (s : ((List (T3 Str Int Int)) × Int)) (ρ : Env) => ∃ u0 u1 u2 u3 u4 : Sl, ρ = [.v (.d (enc draws271)), .v (.d (enc most272)), .v (.d (enc ((2 : Int) + (v273 % (2 : Int))))), .v (.ol (encs s.1)), .v (.d (enc s.2)), .v (.d (enc x305)), .no, u0, u279, u1, u2, u3, u4] ∧ fre u0 ∧ fre u1 ∧ fre u2 ∧ fre u3 ∧ fre u4)) (s0 := (s274.1, s274.2)) ⟨u277, u281, u283, u285, u287, rfl, w278, w282, w284, w286, w288⟩ (by intro x330 s306 ρ h; obtain ⟨u307, u309, u311, u313, u315, rfl, w308, w310, w312, w314, w316⟩ := h; exact (q_opt [.v (.d (enc draws271)), .v (.d (enc most272)), .v (.d (enc ((2 : Int) + (v273 % (2 : Int))))), .v (.ol (encs s306.1)), .v (.d (enc s306.2)), .v (.d (enc x305)), .no, .v (.d (enc x330)), u279, u309, u311, u313, u315] (g_n (i := 7) (ok_fre rfl w308) rfl) (q_seq (q_set (c_bin (c_ok draws271 rfl (c_ok (((4 : Int) + ((3 : Int) * x305)) + x330) (p_bin (x := enc ((4 : Int) + ((3 : Int) * x305))) (y := enc x330) (p_bin (x := enc (4 : Int)) (y := enc ((3 : Int) * x305)) rfl (p_bin (x := enc (3 : Int)) (y := enc x305) rfl rfl (k_mull (3 : Int) x305 (by decide))) rfl) rfl rfl) (c_leaf (le_idx draws271 (((4 : Int) + ((3 : Int) * x305)) + x330)) trivial fun draw331 => (q_put (i := 9) [.v (.d (enc draws271)), .v (.d (enc most272)), .v (.d (enc ((2 : Int) + (v273 % (2 : Int))))), .v (.ol (encs s306.1)), .v (.d (enc s306.2)), .v (.d (enc x305)), .no, .v (.d (enc x330)), u279, .v (.d (enc draw331)), u311, u313, u315] (ok_fre rfl w310) rfl (q_seq (q_set (c_bin (c_ok ([("coast" : Str), ("coast" : Str), ("lift" : Str)] : (List Str)) (p_toE (p_lst (p_cons (x := enc ("coast" : Str)) rfl (p_cons (x := enc ("coast" : Str)) rfl (p_cons (x := enc ("lift" : Str)) rfl p_nil))) rfl)) (c_ok (draw331 % (3 : Int)) (p_bin (x := enc draw331) (y := enc (3 : Int)) rfl rfl (k_mod draw331 (3 : Int) (by decide))) (c_leaf (le_idx ([("coast" : Str), ("coast" : Str), ("lift" : Str)] : (List Str)) (draw331 % (3 : Int))) trivial fun kind332 => (q_put (i := 10) [.v (.d (enc draws271)), .v (.d (enc most272)), .v (.d (enc ((2 : Int) + (v273 % (2 : Int))))), .v (.ol (encs s306.1)), .v (.d (enc s306.2)), .v (.d (enc x305)), .no, .v (.d (enc x330)), u279, .v (.d (enc draw331)), .v (.d (enc kind332)), u313, u315] (ok_fre rfl w312) rfl (q_seq (q_set (c_okL (((draw331 / (3 : Int)) % (61 : Int)) - (30 : Int)) (p_bin (x := enc ((draw331 / (3 : Int)) % (61 : Int))) (y := enc (30 : Int)) (p_bin (x := enc (draw331 / (3 : Int))) (y := enc (61 : Int)) (p_bin (x := enc draw331) (y := enc (3 : Int)) rfl rfl (k_fdiv draw331 (3 : Int) (by decide))) rfl (k_mod (draw331 / (3 : Int)) (61 : Int) (by decide))) rfl rfl) fun slope333 => (q_put (i := 11) [.v (.d (enc draws271)), .v (.d (enc most272)), .v (.d (enc ((2 : Int) + (v273 % (2 : Int))))), .v (.ol (encs s306.1)), .v (.d (enc s306.2)), .v (.d (enc x305)), .no, .v (.d (enc x330)), u279, .v (.d (enc draw331)), .v (.d (enc kind332)), .v (.d (enc slope333)), u315] (ok_fre rfl w314) rfl (q_seq (q_set (c_bin (c_ok (1 : Int) rfl (c_bin (c_ok (draw331 / (200 : Int)) (p_bin (x := enc draw331) (y := enc (200 : Int)) rfl rfl (k_fdiv draw331 (200 : Int) (by decide))) (c_ok most272 rfl (c_leaf (le_mod (draw331 / (200 : Int)) most272) trivial fun v334 => (c_ok ((1 : Int) + v334) rfl (q_put (i := 12) [.v (.d (enc draws271)), .v (.d (enc most272)), .v (.d (enc ((2 : Int) + (v273 % (2 : Int))))), .v (.ol (encs s306.1)), .v (.d (enc s306.2)), .v (.d (enc x305)), .no, .v (.d (enc x330)), u279, .v (.d (enc draw331)), .v (.d (enc kind332)), .v (.d (enc slope333)), .v (.d (enc ((1 : Int) + v334)))] (ok_fre rfl w316) rfl (q_seq (q_lm (encs s306.1) (fun ys => [.v (.d (enc draws271)), .v (.d (enc most272)), .v (.d (enc ((2 : Int) + (v273 % (2 : Int))))), .v (.ol ys), .v (.d (enc s306.2)), .v (.d (enc x305)), .no, .v (.d (enc x330)), u279, .v (.d (enc draw331)), .v (.d (enc kind332)), .v (.d (enc slope333)), .v (.d (enc ((1 : Int) + v334)))]) rfl (fun _ => rfl) (c_cons (c_ok (⟨kind332, ((1 : Int) + v334), slope333⟩ : (T3 Str Int Int)) (p_tup (p_cons (x := enc kind332) rfl (p_cons (x := enc ((1 : Int) + v334)) rfl (p_cons (x := enc slope333) rfl p_nil))) rfl) (c_nil (c_leaf (e := encs) (le_app s306.1 (⟨kind332, ((1 : Int) + v334), slope333⟩ : (T3 Str Int Int)) _ rfl) trivial fun rows335 => (q_set (c_bin (c_ok s306.2 rfl (c_bin (c_ok ((1 : Int) + v334) rfl (c_ok slope333 rfl (c_leaf (le_mul ((1 : Int) + v334) slope333) trivial fun v336 => (c_ok (s306.2 + v336) rfl (q_put (i := 4) [.v (.d (enc draws271)), .v (.d (enc most272)), .v (.d (enc ((2 : Int) + (v273 % (2 : Int))))), .v (.ol (encs rows335)), .v (.d (enc (s306.2 + v336))), .v (.d (enc x305)), .no, .v (.d (enc x330)), u279, .v (.d (enc draw331)), .v (.d (enc kind332)), .v (.d (enc slope333)), .v (.d (enc ((1 : Int) + v334)))] rfl rfl (s_nx (s := (rows335, (s306.2 + v336))) ⟨.v (.d (enc x330)), .v (.d (enc draw331)), .v (.d (enc kind332)), .v (.d (enc slope333)), .v (.d (enc ((1 : Int) + v334))), rfl, (fre_v _), (fre_v _), (fre_v _), (fre_v _), (fre_v _)⟩)))))))))))))))))))))))))))))))))))))))))))))) (by intro s317 ρ h; obtain ⟨u318, u320, u322, u324, u326, rfl, w319, w321, w323, w325, w327⟩ := h; exact (q_seq (q_set (c_bin (c_bin (c_bin (c_ok draws271 rfl (c_ok ((17 : Int) + x305) (p_bin (x := enc (17 : Int)) (y := enc x305) rfl rfl rfl) (c_leaf (le_idx draws271 ((17 : Int) + x305)) trivial fun v337 => (c_ok (5 : Int) rfl (c_ok (v337 % (5 : Int)) (k_mod v337 (5 : Int) (by decide)) (c_ok (2 : Int) rfl (c_ok ((v337 % (5 : Int)) - (2 : Int)) rfl (q_put (i := 8) [.v (.d (enc draws271)), .v (.d (enc most272)), .v (.d (enc ((2 : Int) + (v273 % (2 : Int))))), .v (.ol (encs s317.1)), .v (.d (enc s317.2)), .v (.d (enc x305)), .no, u318, .v (.d (enc ((v337 % (5 : Int)) - (2 : Int)))), u320, u322, u324, u326] (ok_fre rfl w280) rfl (q_seq (q_lm (encs s317.1) (fun ys => [.v (.d (enc draws271)), .v (.d (enc most272)), .v (.d (enc ((2 : Int) + (v273 % (2 : Int))))), .v (.ol ys), .v (.d (enc s317.2)), .v (.d (enc x305)), .no, u318, .v (.d (enc ((v337 % (5 : Int)) - (2 : Int)))), u320, u322, u324, u326]) rfl (fun _ => rfl) (c_cons (c_tup (c_cons (c_ok ("brake" : Str) rfl (c_cons (c_bin (c_ok (1 : Int) rfl (c_bin (c_bin (c_ok draws271 rfl (c_ok ((14 : Int) + x305) (p_bin (x := enc (14 : Int)) (y := enc x305) rfl rfl rfl) (c_leaf (le_idx draws271 ((14 : Int) + x305)) trivial fun v338 => (c_ok (6 : Int) rfl (c_ok (v338 % (6 : Int)) (k_mod v338 (6 : Int) (by decide)) (c_ok ((1 : Int) + (v338 % (6 : Int))) rfl (c_cons (c_ok ((v337 % (5 : Int)) - (2 : Int)) rfl (c_nil (c_ok (⟨("brake" : Str), ((1 : Int) + (v338 % (6 : Int))), ((v337 % (5 : Int)) - (2 : Int))⟩ : (T3 Str Int Int)) (p_size rfl) (c_nil (c_leaf (e := encs) (le_app s317.1 (⟨("brake" : Str), ((1 : Int) + (v338 % (6 : Int))), ((v337 % (5 : Int)) - (2 : Int))⟩ : (T3 Str Int Int)) _ rfl) trivial fun rows339 => (q_set (c_bin (c_ok s317.2 rfl (c_bin (c_bin (c_bin (c_ok rows339 rfl (c_ok (-1 : Int) (p_un (x := enc (1 : Int)) rfl rfl) (c_leaf (le_idx rows339 (-1 : Int)) trivial fun v340 => (c_ok (1 : Int) rfl (c_ok v340.b rfl (c_ok ((v337 % (5 : Int)) - (2 : Int)) rfl (c_leaf (le_mul v340.b ((v337 % (5 : Int)) - (2 : Int))) trivial fun v341 => (c_ok (s317.2 + v341) rfl (q_put (i := 4) [.v (.d (enc draws271)), .v (.d (enc most272)), .v (.d (enc ((2 : Int) + (v273 % (2 : Int))))), .v (.ol (encs rows339)), .v (.d (enc (s317.2 + v341))), .v (.d (enc x305)), .no, u318, .v (.d (enc ((v337 % (5 : Int)) - (2 : Int)))), u320, u322, u324, u326] rfl rfl (s_nx (s := (rows339, (s317.2 + v341))) ⟨.v (.d (enc x305)), u318, .v (.d (enc ((v337 % (5 : Int)) - (2 : Int)))), u320, u322, u324, u326, rfl, (fre_v _), w319, (fre_v _), w321, w323, w325, w327⟩))))))))))))))))))))))))))))))))))))))))))))))))))))))))))))))))))))) (by intro s289 ρ h; obtain ⟨u290, u292, u294, u296, u298, u300, u302, rfl, w291, w293, w295, w297, w299, w301, w303⟩ := h; exact (q_seq (q_lm (encs s289.1) (fun ys => [.v (.d (enc draws271)), .v (.d (enc most272)), .v (.d (enc ((2 : Int) + (v273 % (2 : Int))))), .v (.ol ys), .v (.d (enc s289.2)), u290, .no, u292, u294, u296, u298, u300, u302]) rfl (fun _ => rfl) (c_cons (c_bin (c_bin (c_ok draws271 rfl (c_ok (20 : Int) rfl (c_leaf (le_idx draws271 (20 : Int)) trivial fun v342 => (c_ok (s289.1.length : Int) (p_arg (p_cons (x := enc s289.1) rfl p_nil) (k_len s289.1)) (c_leaf (le_mod v342 (s289.1.length : Int)) trivial fun v343 => (c_cons (c_tup (c_cons (c_ok ("coast" : Str) rfl (c_cons (c_bin (c_ok ([(1 : Int), (1 : Int), (1 : Int), (1 : Int), (300 : Int)] : (List Int)) (p_toE (p_lst (p_cons (x := enc (1 : Int)) rfl (p_cons (x := enc (1 : Int)) rfl (p_cons (x := enc (1 : Int)) rfl (p_cons (x := enc (1 : Int)) rfl (p_cons (x := enc (300 : Int)) rfl p_nil))))) rfl)) (c_bin (c_bin (c_ok draws271 rfl (c_ok (22 : Int) rfl (c_leaf (le_idx draws271 (22 : Int)) trivial fun v344 => (c_ok (5 : Int) rfl (c_ok (v344 % (5 : Int)) (k_mod v344 (5 : Int) (by decide)) (c_leaf (le_idx ([(1 : Int), (1 : Int), (1 : Int), (1 : Int), (300 : Int)] : (List Int)) (v344 % (5 : Int))) trivial fun v345 => (c_cons (c_ok (0 : Int) rfl (c_nil (c_ok (⟨("coast" : Str), v345, (0 : Int)⟩ : (T3 Str Int Int)) (p_size rfl) (c_nil (c_leaf (e := encs) (le_ins s289.1 v343 (⟨("coast" : Str), v345, (0 : Int)⟩ : (T3 Str Int Int)) _ rfl) trivial fun rows346 => (q_seq (q_set (c_okL (-s289.2) (p_un (x := enc s289.2) rfl rfl) fun left347 => (q_put (i := 6) [.v (.d (enc draws271)), .v (.d (enc most272)), .v (.d (enc ((2 : Int) + (v273 % (2 : Int))))), .v (.ol (encs rows346)), .v (.d (enc s289.2)), u290, .v (.d (enc left347)), u292, u294, u296, u298, u300, u302] rfl rfl (q_seq (q_for (c_arg (c_cons (c_ok (40 : Int) rfl (c_nil (c_leaf (e := encs) (le_rng (40 : Int)) trivial fun v358 => (q_fold (I := (fun (s : ((List (T3 Str Int Int)) × Int)) (ρ : Env) => ∃ u0 u1 : Sl, ρ = [.v (.d (enc draws271)), .v (.d (enc most272)), .v (.d (enc ((2 : Int) + (v273 % (2 : Int))))), .v (.ol (encs s.1)), .v (.d (enc s289.2)), u290, .v (.d (enc s.2)), u0, u294, u296, u298, u1, u302] ∧ fre u0 ∧ fre u1)) (s0 := (rows346, left347)) ⟨u292, u300, rfl, w293, w301⟩ (by intro x359 s348 ρ h; obtain ⟨u349, u351, rfl, w350, w352⟩ := h; exact (q_opt [.v (.d (enc draws271)), .v (.d (enc most272)), .v (.d (enc ((2 : Int) + (v273 % (2 : Int))))), .v (.ol (encs s348.1)), .v (.d (enc s289.2)), u290, .v (.d (enc s348.2)), .v (.d (enc x359)), u294, u296, u298, u351, u302] (g_n (i := 7) (ok_fre rfl w350) rfl) (q_if (c_okb (!decide (s348.2 = (0 : Int))) (p_tst (p_bin (x := enc s348.2) (y := enc (0 : Int)) rfl rfl (k_ne s348.2 (0 : Int)))) (q_ite (fun _ => (q_seq (q_set (c_okL (max (-90 : Int) (min (90 : Int) s348.2)) (p_arg (p_cons (x := enc (-90 : Int)) (p_un (x := enc (90 : Int)) rfl rfl) (p_cons (x := enc (min (90 : Int) s348.2)) (p_arg (p_cons (x := enc (90 : Int)) rfl (p_cons (x := enc s348.2) rfl p_nil)) rfl) p_nil)) rfl) fun slope360 => (q_put (i := 11) [.v (.d (enc draws271)), .v (.d (enc most272)), .v (.d (enc ((2 : Int) + (v273 % (2 : Int))))), .v (.ol (encs s348.1)), .v (.d (enc s289.2)), u290, .v (.d (enc s348.2)), .v (.d (enc x359)), u294, u296, u298, .v (.d (enc slope360)), u302] (ok_fre rfl w352) rfl (q_seq (q_lm (encs s348.1) (fun ys => [.v (.d (enc draws271)), .v (.d (enc most272)), .v (.d (enc ((2 : Int) + (v273 % (2 : Int))))), .v (.ol ys), .v (.d (enc s289.2)), u290, .v (.d (enc s348.2)), .v (.d (enc x359)), u294, u296, u298, .v (.d (enc slope360)), u302]) rfl (fun _ => rfl) (c_cons (c_ok (0 : Int) rfl (c_cons (c_tup (c_cons (c_bin (c_toE (c_lst (c_cons (c_bin (c_ok (TL.mk [("coast" : Str), ("lift" : Str)] : (TL Str)) (p_tup (p_cons (x := enc ("coast" : Str)) rfl (p_cons (x := enc ("lift" : Str)) rfl p_nil)) rfl) (c_ok (if (decide ((0 : Int) < slope360)) = true then (1 : Int) else 0) (p_arg (p_cons (x := enc (decide ((0 : Int) < slope360))) (p_bin (x := enc slope360) (y := enc (0 : Int)) rfl rfl rfl) p_nil) (k_intb (decide ((0 : Int) < slope360)))) (c_leaf (le_idxt (TL.mk [("coast" : Str), ("lift" : Str)] : (TL Str)) (if (decide ((0 : Int) < slope360)) = true then (1 : Int) else 0)) trivial fun v361 => (c_cons (c_ok ("coast" : Str) rfl (c_nil (c_okg (encs ([v361, ("coast" : Str)] : (List Str))) (p_size rfl) (c_bin (c_bin (c_ok draws271 rfl (c_ok (21 : Int) rfl (c_leaf (le_idx draws271 (21 : Int)) trivial fun v362 => (c_ok (2 : Int) rfl (c_ok (v362 % (2 : Int)) (k_mod v362 (2 : Int) (by decide)) (c_leaf (le_idx ([v361, ("coast" : Str)] : (List Str)) (v362 % (2 : Int))) trivial fun v363 => (c_cons (c_ok (1 : Int) rfl (c_cons (c_ok slope360 rfl (c_nil (c_ok (⟨v363, (1 : Int), slope360⟩ : (T3 Str Int Int)) (p_size rfl) (c_nil (c_leaf (e := encs) (le_ins s348.1 (0 : Int) (⟨v363, (1 : Int), slope360⟩ : (T3 Str Int Int)) _ rfl) trivial fun rows364 => (q_set (c_okL (s348.2 - slope360) (p_bin (x := enc s348.2) (y := enc slope360) rfl rfl rfl) fun left365 => (q_put (i := 6) [.v (.d (enc draws271)), .v (.d (enc most272)), .v (.d (enc ((2 : Int) + (v273 % (2 : Int))))), .v (.ol (encs rows364)), .v (.d (enc s289.2)), u290, .v (.d (enc left365)), .v (.d (enc x359)), u294, u296, u298, .v (.d (enc slope360)), u302] rfl rfl (s_nx (s := (rows364, left365)) ⟨.v (.d (enc x359)), .v (.d (enc slope360)), rfl, (fre_v _), (fre_v _)⟩)))))))))))))))))))))))))))))))))))))))))))) (fun _ => (q_end (s_nx (s := (s348.1, s348.2)) ⟨.v (.d (enc x359)), u351, rfl, (fre_v _), w352⟩)))))))) (by intro s353 ρ h; obtain ⟨u354, u356, rfl, w355, w357⟩ := h; exact (q_frz [.v (.d (enc draws271)), .v (.d (enc most272)), .v (.d (enc ((2 : Int) + (v273 % (2 : Int))))), .v (.d (enc s353.1)), .v (.d (enc s289.2)), u290, .v (.d (enc s353.2)), u354, u294, u296, u298, u356, u302] rfl (q_ret (c_ok s353.1 rfl (s_rt s353.1 rfl))))))))))))))))))))))))))))))))))))))))))))))))))))))))))))))))))))))))))))))
def t_law_drawn_layout (draws366 : (List Int)) : Res (List (T3 Str Int Int)) :=
 ((t_law_drawn_segments draws366 (5 : Int)) >>= fun rows367 =>
 ((compS (fun _ => (.ok true)) (fun x368 =>
 ((mulT x368.b x368.c) >>= fun v369 =>
 (.ok v369))) rows367) >>= fun v370 =>
 ((if (!decide (v370.sum = (0 : Int))) = true then
 (letT ([(⟨("lift" : Str), (6 : Int), (25 : Int)⟩ : (T3 Str Int Int)), (⟨("coast" : Str), (5 : Int), (-30 : Int)⟩ : (T3 Str Int Int)), (⟨("brake" : Str), (3 : Int), (0 : Int)⟩ : (T3 Str Int Int)), (⟨("coast" : Str), (3 : Int), (0 : Int)⟩ : (T3 Str Int Int)), (⟨("brake" : Str), (4 : Int), (0 : Int)⟩ : (T3 Str Int Int))] : (List (T3 Str Int Int))) fun rows372 =>
 (.ok rows372))
 else (.ok rows367) : Res (List (T3 Str Int Int))) >>= fun s371 =>
 (.ok s371))))
theorem r_law_drawn_layout (draws366 : (List Int)) : Le enc (m_law_drawn_layout [enc draws366]) (t_law_drawn_layout draws366) := by
  unfold m_law_drawn_layout b_law_drawn_layout t_law_drawn_layout
  exact le_fn [.v (.d (enc draws366)), .no, .no, .no, .no, .no] rfl (q_seq (q_set (c_arg (c_cons (c_ok draws366 rfl (c_cons (c_ok (5 : Int) rfl (c_nil (c_leaf (r_law_drawn_segments draws366 (5 : Int)) trivial fun rows367 => (q_put (i := 1) [.v (.d (enc draws366)), .v (.d (enc rows367)), .no, .no, .no, .no] rfl rfl (q_seq (q_set (c_arg (c_cons (c_toE (c_comp (c_okg (encs rows367) (p_unF (x := enc rows367) rfl (k_seq _)) (c_leaf (e := encs) (le_comp [.v (.d (enc draws366)), .v (.d (enc rows367)), .no, .no, .no, .no] rfl (fun x368 => [.v (.d (enc draws366)), .v (.d (enc rows367)), .no, .v (.d (enc x368.a)), .v (.d (enc x368.b)), .v (.d (enc x368.c))]) (fun x368 => rfl) (fun x368 => ⟨rfl⟩) (fun x368 => (le_sim (ρ := [.v (.d (enc draws366)), .v (.d (enc rows367)), .no, .v (.d (enc x368.a)), .v (.d (enc x368.b)), .v (.d (enc x368.c))]) (c_bin (c_ok x368.b rfl (c_ok x368.c rfl (c_leaf (le_mul x368.b x368.c) trivial fun v369 => (e_val v369 rfl)))))))) trivial fun v370 => (c_nil (c_ok v370.sum (k_sum v370) (q_put (i := 2) [.v (.d (enc draws366)), .v (.d (enc rows367)), .v (.d (enc v370.sum)), .no, .no, .no] rfl rfl (q_seq (q_if (c_okb (!decide (v370.sum = (0 : Int))) (p_tst (p_bin (x := enc v370.sum) (y := enc (0 : Int)) rfl rfl (k_ne v370.sum (0 : Int)))) (q_join (I := (fun (s : (List (T3 Str Int Int))) (ρ : Env) => ρ = [.v (.d (enc draws366)), .v (.d (enc s)), .v (.d (enc v370.sum)), .no, .no, .no])) (q_ite (fun _ => (q_set (c_okL ([(⟨("lift" : Str), (6 : Int), (25 : Int)⟩ : (T3 Str Int Int)), (⟨("coast" : Str), (5 : Int), (-30 : Int)⟩ : (T3 Str Int Int)), (⟨("brake" : Str), (3 : Int), (0 : Int)⟩ : (T3 Str Int Int)), (⟨("coast" : Str), (3 : Int), (0 : Int)⟩ : (T3 Str Int Int)), (⟨("brake" : Str), (4 : Int), (0 : Int)⟩ : (T3 Str Int Int))] : (List (T3 Str Int Int))) (p_toE (p_lst (p_cons (x := enc (⟨("lift" : Str), (6 : Int), (25 : Int)⟩ : (T3 Str Int Int))) (p_tup (p_cons (x := enc ("lift" : Str)) rfl (p_cons (x := enc (6 : Int)) rfl (p_cons (x := enc (25 : Int)) rfl p_nil))) rfl) (p_cons (x := enc (⟨("coast" : Str), (5 : Int), (-30 : Int)⟩ : (T3 Str Int Int))) (p_tup (p_cons (x := enc ("coast" : Str)) rfl (p_cons (x := enc (5 : Int)) rfl (p_cons (x := enc (-30 : Int)) (p_un (x := enc (30 : Int)) rfl rfl) p_nil))) rfl) (p_cons (x := enc (⟨("brake" : Str), (3 : Int), (0 : Int)⟩ : (T3 Str Int Int))) (p_tup (p_cons (x := enc ("brake" : Str)) rfl (p_cons (x := enc (3 : Int)) rfl (p_cons (x := enc (0 : Int)) rfl p_nil))) rfl) (p_cons (x := enc (⟨("coast" : Str), (3 : Int), (0 : Int)⟩ : (T3 Str Int Int))) (p_tup (p_cons (x := enc ("coast" : Str)) rfl (p_cons (x := enc (3 : Int)) rfl (p_cons (x := enc (0 : Int)) rfl p_nil))) rfl) (p_cons (x := enc (⟨("brake" : Str), (4 : Int), (0 : Int)⟩ : (T3 Str Int Int))) (p_tup (p_cons (x := enc ("brake" : Str)) rfl (p_cons (x := enc (4 : Int)) rfl (p_cons (x := enc (0 : Int)) rfl p_nil))) rfl) p_nil))))) rfl)) fun rows372 => (q_put (i := 1) [.v (.d (enc draws366)), .v (.d (enc rows372)), .v (.d (enc v370.sum)), .no, .no, .no] rfl rfl (s_nx (s := rows372) rfl))))) (fun _ => (q_end (s_nx (s := rows367) rfl)))) (by intro s371 ρ h; subst h; exact (q_ret (c_ok s371 rfl (s_rt s371 rfl)))))))))))))))))))))))))))))
def t_law_drawn_train (draws373 : (List Int)) : Res (R5 Int (T2 Int Int) (T2 Int Int) Int Int) :=
 ((idxT draws373 (0 : Int)) >>= fun v374 =>
 ((idxT draws373 (1 : Int)) >>= fun v375 =>
 ((idxT draws373 (2 : Int)) >>= fun v376 =>
 ((idxT draws373 (3 : Int)) >>= fun v377 =>
 ((idxT draws373 (4 : Int)) >>= fun v378 =>
 ((idxT draws373 (5 : Int)) >>= fun v379 =>
 ((idxT draws373 (6 : Int)) >>= fun v380 =>
 (.ok (⟨((1 : Int) + (v376 % (4 : Int))), (⟨(v374 % (400 : Int)), ((v374 % (400 : Int)) + (v377 % (900 : Int)))⟩ : (T2 Int Int)), (⟨((5000 : Int) + ((73 : Int) * v375)), (((5000 : Int) + ((73 : Int) * v375)) + ((10 : Int) * v378))⟩ : (T2 Int Int)), ((1 : Int) + ((30 : Int) * v379)), ((1 : Int) + ((20 : Int) * v380))⟩ : (R5 Int (T2 Int Int) (T2 Int Int) Int Int))))))))))
theorem r_law_drawn_train (draws373 : (List Int)) : Le enc (m_law_drawn_train [enc draws373]) (t_law_drawn_train draws373) := by
  unfold m_law_drawn_train b_law_drawn_train t_law_drawn_train
  exact le_fn [.v (.d (enc draws373)), .no, .no] rfl (q_seq (q_set (c_bin (c_bin (c_ok draws373 rfl (c_ok (0 : Int) rfl (c_leaf (le_idx draws373 (0 : Int)) trivial fun v374 => (c_ok (400 : Int) rfl (c_ok (v374 % (400 : Int)) (k_mod v374 (400 : Int) (by decide)) (q_put (i := 1) [.v (.d (enc draws373)), .v (.d (enc (v374 % (400 : Int)))), .no] rfl rfl (q_seq (q_set (c_bin (c_ok (5000 : Int) rfl (c_bin (c_ok (73 : Int) rfl (c_bin (c_ok draws373 rfl (c_ok (1 : Int) rfl (c_leaf (le_idx draws373 (1 : Int)) trivial fun v375 => (c_ok ((73 : Int) * v375) (k_mull (73 : Int) v375 (by decide)) (c_ok ((5000 : Int) + ((73 : Int) * v375)) rfl (q_put (i := 2) [.v (.d (enc draws373)), .v (.d (enc (v374 % (400 : Int)))), .v (.d (enc ((5000 : Int) + ((73 : Int) * v375))))] rfl rfl (q_ret (c_toE (c_lst (c_cons (c_bin (c_ok (1 : Int) rfl (c_bin (c_bin (c_ok draws373 rfl (c_ok (2 : Int) rfl (c_leaf (le_idx draws373 (2 : Int)) trivial fun v376 => (c_ok (4 : Int) rfl (c_ok (v376 % (4 : Int)) (k_mod v376 (4 : Int) (by decide)) (c_ok ((1 : Int) + (v376 % (4 : Int))) rfl (c_cons (c_tup (c_cons (c_ok (v374 % (400 : Int)) rfl (c_cons (c_bin (c_ok (v374 % (400 : Int)) rfl (c_bin (c_bin (c_ok draws373 rfl (c_ok (3 : Int) rfl (c_leaf (le_idx draws373 (3 : Int)) trivial fun v377 => (c_ok (900 : Int) rfl (c_ok (v377 % (900 : Int)) (k_mod v377 (900 : Int) (by decide)) (c_ok ((v374 % (400 : Int)) + (v377 % (900 : Int))) rfl (c_nil (c_ok (⟨(v374 % (400 : Int)), ((v374 % (400 : Int)) + (v377 % (900 : Int)))⟩ : (T2 Int Int)) (p_size rfl) (c_cons (c_tup (c_cons (c_ok ((5000 : Int) + ((73 : Int) * v375)) rfl (c_cons (c_bin (c_ok ((5000 : Int) + ((73 : Int) * v375)) rfl (c_bin (c_ok (10 : Int) rfl (c_bin (c_ok draws373 rfl (c_ok (4 : Int) rfl (c_leaf (le_idx draws373 (4 : Int)) trivial fun v378 => (c_ok ((10 : Int) * v378) (k_mull (10 : Int) v378 (by decide)) (c_ok (((5000 : Int) + ((73 : Int) * v375)) + ((10 : Int) * v378)) rfl (c_nil (c_ok (⟨((5000 : Int) + ((73 : Int) * v375)), (((5000 : Int) + ((73 : Int) * v375)) + ((10 : Int) * v378))⟩ : (T2 Int Int)) (p_size rfl) (c_cons (c_bin (c_ok (1 : Int) rfl (c_bin (c_ok (30 : Int) rfl (c_bin (c_ok draws373 rfl (c_ok (5 : Int) rfl (c_leaf (le_idx draws373 (5 : Int)) trivial fun v379 => (c_ok ((30 : Int) * v379) (k_mull (30 : Int) v379 (by decide)) (c_ok ((1 : Int) + ((30 : Int) * v379)) rfl (c_cons (c_bin (c_ok (1 : Int) rfl (c_bin (c_ok (20 : Int) rfl (c_bin (c_ok draws373 rfl (c_ok (6 : Int) rfl (c_leaf (le_idx draws373 (6 : Int)) trivial fun v380 => (c_ok ((20 : Int) * v380) (k_mull (20 : Int) v380 (by decide)) (c_ok ((1 : Int) + ((20 : Int) * v380)) rfl (c_nil (c_okg [enc (⟨((1 : Int) + (v376 % (4 : Int))), (⟨(v374 % (400 : Int)), ((v374 % (400 : Int)) + (v377 % (900 : Int)))⟩ : (T2 Int Int)), (⟨((5000 : Int) + ((73 : Int) * v375)), (((5000 : Int) + ((73 : Int) * v375)) + ((10 : Int) * v378))⟩ : (T2 Int Int)), ((1 : Int) + ((30 : Int) * v379)), ((1 : Int) + ((20 : Int) * v380))⟩ : (R5 Int (T2 Int Int) (T2 Int Int) Int Int)).a, enc (⟨((1 : Int) + (v376 % (4 : Int))), (⟨(v374 % (400 : Int)), ((v374 % (400 : Int)) + (v377 % (900 : Int)))⟩ : (T2 Int Int)), (⟨((5000 : Int) + ((73 : Int) * v375)), (((5000 : Int) + ((73 : Int) * v375)) + ((10 : Int) * v378))⟩ : (T2 Int Int)), ((1 : Int) + ((30 : Int) * v379)), ((1 : Int) + ((20 : Int) * v380))⟩ : (R5 Int (T2 Int Int) (T2 Int Int) Int Int)).b, enc (⟨((1 : Int) + (v376 % (4 : Int))), (⟨(v374 % (400 : Int)), ((v374 % (400 : Int)) + (v377 % (900 : Int)))⟩ : (T2 Int Int)), (⟨((5000 : Int) + ((73 : Int) * v375)), (((5000 : Int) + ((73 : Int) * v375)) + ((10 : Int) * v378))⟩ : (T2 Int Int)), ((1 : Int) + ((30 : Int) * v379)), ((1 : Int) + ((20 : Int) * v380))⟩ : (R5 Int (T2 Int Int) (T2 Int Int) Int Int)).c, enc (⟨((1 : Int) + (v376 % (4 : Int))), (⟨(v374 % (400 : Int)), ((v374 % (400 : Int)) + (v377 % (900 : Int)))⟩ : (T2 Int Int)), (⟨((5000 : Int) + ((73 : Int) * v375)), (((5000 : Int) + ((73 : Int) * v375)) + ((10 : Int) * v378))⟩ : (T2 Int Int)), ((1 : Int) + ((30 : Int) * v379)), ((1 : Int) + ((20 : Int) * v380))⟩ : (R5 Int (T2 Int Int) (T2 Int Int) Int Int)).d, enc (⟨((1 : Int) + (v376 % (4 : Int))), (⟨(v374 % (400 : Int)), ((v374 % (400 : Int)) + (v377 % (900 : Int)))⟩ : (T2 Int Int)), (⟨((5000 : Int) + ((73 : Int) * v375)), (((5000 : Int) + ((73 : Int) * v375)) + ((10 : Int) * v378))⟩ : (T2 Int Int)), ((1 : Int) + ((30 : Int) * v379)), ((1 : Int) + ((20 : Int) * v380))⟩ : (R5 Int (T2 Int Int) (T2 Int Int) Int Int)).e] (p_size rfl) (s_rt (⟨((1 : Int) + (v376 % (4 : Int))), (⟨(v374 % (400 : Int)), ((v374 % (400 : Int)) + (v377 % (900 : Int)))⟩ : (T2 Int Int)), (⟨((5000 : Int) + ((73 : Int) * v375)), (((5000 : Int) + ((73 : Int) * v375)) + ((10 : Int) * v378))⟩ : (T2 Int Int)), ((1 : Int) + ((30 : Int) * v379)), ((1 : Int) + ((20 : Int) * v380))⟩ : (R5 Int (T2 Int Int) (T2 Int Int) Int Int)) rfl))))))))))))))))))))))))))))))))))))))))))))))))))))))))))))))))))))))))))))))))))))))))))))))))
def t_law_metres (rows381 : (List (T3 Str Int Int))) : Res (List (T3 Str Int Int)) :=
 (foldT (fun (x400 : (T3 Str Int Int)) (s382 : ((List (T3 Str Int Int)) × Int)) =>
 ((rngT x400.b) >>= fun v407 =>
 (foldT (fun (x408 : Int) (s401 : (List (T3 Str Int Int))) =>
 (appT s401 (⟨x400.a, x400.c, s382.2⟩ : (T3 Str Int Int)) >>= fun found409 =>
 (.ok found409))) v407 s382.1 >>= fun s404 =>
 (letT (s382.2 + (if (decide (x400.a = ("brake" : Str))) = true then (1 : Int) else 0)) fun block410 =>
 (.ok (s404, block410)))))) rows381 (([] : (List (T3 Str Int Int))), (0 : Int)) >>= fun s391 =>
 (.ok s391.1))
theorem r_law_metres (rows381 : (List (T3 Str Int Int))) : Le enc (m_law_metres [enc rows381]) (t_law_metres rows381) := by
  unfold m_law_metres b_law_metres t_law_metres
  exact le_fn [.v (.d (enc rows381)), .no, .no, .no, .no, .no, .no] rfl (q_seq (q_setO (c_okg (encs ([] : (List (T3 Str Int Int)))) (p_lst p_nil rfl) (q_put (i := 1) [.v (.d (enc rows381)), .v (.ol (encs ([] : (List (T3 Str Int Int))))), .no, .no, .no, .no, .no] rfl rfl (q_seq (q_set (c_ok (0 : Int) rfl (q_put (i := 2) [.v (.d (enc rows381)), .v (.ol (encs ([] : (List (T3 Str Int Int))))), .v (.d (enc (0 : Int))), .no, .no, .no, .no] rfl rfl (q_seq (q_for (c_okg (encs rows381) (p_unF (x := enc rows381) rfl (k_seq _)) (q_fold (I := (fun (s : ((List (T3 Str Int Int)) × Int)) (ρ : Env) => ∃ u0 u1 u2 u3 : Sl, ρ = [.v (.d (enc rows381)), .v (.ol (encs s.1)), .v (.d (enc s.2)), u0, u1, u2, u3] ∧ fre u0 ∧ fre u1 ∧ fre u2 ∧ fre u3)) (s0 := (([] : (List (T3 Str Int Int))), (0 : Int))) ⟨.no, .no, .no, .no, rfl, fre_no, fre_no, fre_no, fre_no⟩ (by intro x400 s382 ρ h; obtain ⟨u383, u385, u387, u389, rfl, w384, w386, w388, w390⟩ := h; exact (q_opt [.v (.d (enc rows381)), .v (.ol (encs s382.1)), .v (.d (enc s382.2)), .v (.d (enc x400.a)), .v (.d (enc x400.b)), .v (.d (enc x400.c)), u389] (g_q rfl (g_s (g_n (i := 3) (ok_fre rfl w384) rfl) (g_s (g_n (i := 4) (ok_fre rfl w386) rfl) (g_s (g_n (i := 5) (ok_fre rfl w388) rfl) g_0)))) (q_seq (q_for (c_arg (c_cons (c_ok x400.b rfl (c_nil (c_leaf (e := encs) (le_rng x400.b) trivial fun v407 => (q_fold (I := (fun (s : (List (T3 Str Int Int))) (ρ : Env) => ∃ u0 : Sl, ρ = [.v (.d (enc rows381)), .v (.ol (encs s)), .v (.d (enc s382.2)), .v (.d (enc x400.a)), .v (.d (enc x400.b)), .v (.d (enc x400.c)), u0] ∧ fre u0)) (s0 := s382.1) ⟨u389, rfl, w390⟩ (by intro x408 s401 ρ h; obtain ⟨u402, rfl, w403⟩ := h; exact (q_opt [.v (.d (enc rows381)), .v (.ol (encs s401)), .v (.d (enc s382.2)), .v (.d (enc x400.a)), .v (.d (enc x400.b)), .v (.d (enc x400.c)), .v (.d (enc x408))] (g_n (i := 6) (ok_fre rfl w403) rfl) (q_lm (encs s401) (fun ys => [.v (.d (enc rows381)), .v (.ol ys), .v (.d (enc s382.2)), .v (.d (enc x400.a)), .v (.d (enc x400.b)), .v (.d (enc x400.c)), .v (.d (enc x408))]) rfl (fun _ => rfl) (c_cons (c_ok (⟨x400.a, x400.c, s382.2⟩ : (T3 Str Int Int)) (p_tup (p_cons (x := enc x400.a) rfl (p_cons (x := enc x400.c) rfl (p_cons (x := enc s382.2) rfl p_nil))) rfl) (c_nil (c_leaf (e := encs) (le_app s401 (⟨x400.a, x400.c, s382.2⟩ : (T3 Str Int Int)) _ rfl) trivial fun found409 => (s_nx (s := found409) ⟨.v (.d (enc x408)), rfl, (fre_v _)⟩)))))))) (by intro s404 ρ h; obtain ⟨u405, rfl, w406⟩ := h; exact (q_set (c_okL (s382.2 + (if (decide (x400.a = ("brake" : Str))) = true then (1 : Int) else 0)) (p_bin (x := enc s382.2) (y := enc (if (decide (x400.a = ("brake" : Str))) = true then (1 : Int) else 0)) rfl (p_arg (p_cons (x := enc (decide (x400.a = ("brake" : Str)))) (p_bin (x := enc x400.a) (y := enc ("brake" : Str)) rfl rfl (k_eq x400.a ("brake" : Str))) p_nil) (k_intb (decide (x400.a = ("brake" : Str))))) rfl) fun block410 => (q_put (i := 2) [.v (.d (enc rows381)), .v (.ol (encs s404)), .v (.d (enc block410)), .v (.d (enc x400.a)), .v (.d (enc x400.b)), .v (.d (enc x400.c)), u405] rfl rfl (s_nx (s := (s404, block410)) ⟨.v (.d (enc x400.a)), .v (.d (enc x400.b)), .v (.d (enc x400.c)), u405, rfl, (fre_v _), (fre_v _), (fre_v _), w406⟩))))))))))))))) (by intro s391 ρ h; obtain ⟨u392, u394, u396, u398, rfl, w393, w395, w397, w399⟩ := h; exact (q_frz [.v (.d (enc rows381)), .v (.d (enc s391.1)), .v (.d (enc s391.2)), u392, u394, u396, u398] rfl (q_ret (c_ok s391.1 rfl (s_rt s391.1 rfl)))))))))))))))))
def t_law_after (metre411 : (T3 Str Int Int)) (data412 : (R5 Int (T2 Int Int) (T2 Int Int) Int Int)) (energy413 : Int) (friction414 : Int) (strength415 : (Option Int)) : Res Int :=
 (letT ((energy413 - ((1962 : Int) * metre411.b)) - friction414) fun rest416 =>
 (if (decide (metre411.a = ("lift" : Str))) = true then
 (.ok (max data412.d rest416))
 else (if ((decide (metre411.a = ("brake" : Str))) && (strength415.isNone)) = true then
 (.ok (max data412.e rest416))
 else ((if (decide (metre411.a = ("brake" : Str))) = true then
 (unT strength415 >>= fun v418 =>
 (.ok (rest416 - v418)))
 else (.ok rest416) : Res Int) >>= fun s417 =>
 (if (decide (energy413 = (0 : Int))) = true then
 (.ok (0 : Int))
 else (.ok (max (0 : Int) s417)))))))
theorem r_law_after (metre411 : (T3 Str Int Int)) (data412 : (R5 Int (T2 Int Int) (T2 Int Int) Int Int)) (energy413 : Int) (friction414 : Int) (strength415 : (Option Int)) : Le enc (m_law_after [enc metre411, enc data412, enc energy413, enc friction414, enc strength415]) (t_law_after metre411 data412 energy413 friction414 strength415) := by
  unfold m_law_after b_law_after t_law_after
  exact le_fn [.v (.d (enc metre411)), .v (.d (enc data412)), .v (.d (enc energy413)), .v (.d (enc friction414)), .v (.d (enc strength415)), .no, .no, .no, .no] rfl (q_seq (q_asg (c_ok metre411 rfl (q_opt [.v (.d (enc metre411)), .v (.d (enc data412)), .v (.d (enc energy413)), .v (.d (enc friction414)), .v (.d (enc strength415)), .no, .v (.d (enc metre411.a)), .v (.d (enc metre411.b)), .v (.d (enc metre411.c))] rfl (q_seq (q_set (c_okL ((energy413 - ((1962 : Int) * metre411.b)) - friction414) (p_bin (x := enc (energy413 - ((1962 : Int) * metre411.b))) (y := enc friction414) (p_bin (x := enc energy413) (y := enc ((1962 : Int) * metre411.b)) rfl (p_bin (x := enc (1962 : Int)) (y := enc metre411.b) rfl rfl (k_mull (1962 : Int) metre411.b (by decide))) rfl) rfl rfl) fun rest416 => (q_put (i := 5) [.v (.d (enc metre411)), .v (.d (enc data412)), .v (.d (enc energy413)), .v (.d (enc friction414)), .v (.d (enc strength415)), .v (.d (enc rest416)), .v (.d (enc metre411.a)), .v (.d (enc metre411.b)), .v (.d (enc metre411.c))] rfl rfl (q_seq (q_if (c_okb (decide (metre411.a = ("lift" : Str))) (p_tst (p_bin (x := enc metre411.a) (y := enc ("lift" : Str)) rfl rfl (k_eq metre411.a ("lift" : Str)))) (q_ite (fun _ => (q_ret (c_ok (max data412.d rest416) (p_arg (p_cons (x := enc data412.d) (p_bin (x := enc data412) (y := enc (3 : Int)) rfl rfl rfl) (p_cons (x := enc rest416) rfl p_nil)) rfl) (s_rt (max data412.d rest416) rfl)))) (fun _ => (q_end (q_seq (q_if (c_okb ((decide (metre411.a = ("brake" : Str))) && (strength415.isNone)) (p_and (p_tst (p_bin (x := enc metre411.a) (y := enc ("brake" : Str)) rfl rfl (k_eq metre411.a ("brake" : Str)))) (p_tst (p_bin (x := enc strength415) (y := enc ()) rfl rfl (k_isnon strength415)))) (q_ite (fun _ => (q_ret (c_ok (max data412.e rest416) (p_arg (p_cons (x := enc data412.e) (p_bin (x := enc data412) (y := enc (4 : Int)) rfl rfl rfl) (p_cons (x := enc rest416) rfl p_nil)) rfl) (s_rt (max data412.e rest416) rfl)))) (fun _ => (q_end (q_seq (q_if (c_okb (decide (metre411.a = ("brake" : Str))) (p_tst (p_bin (x := enc metre411.a) (y := enc ("brake" : Str)) rfl rfl (k_eq metre411.a ("brake" : Str)))) (q_join (I := (fun (s : Int) (ρ : Env) => ρ = [.v (.d (enc metre411)), .v (.d (enc data412)), .v (.d (enc energy413)), .v (.d (enc friction414)), .v (.d (enc strength415)), .v (.d (enc s)), .v (.d (enc metre411.a)), .v (.d (enc metre411.b)), .v (.d (enc metre411.c))])) (q_ite (fun _ => (q_set (c_bin (c_ok rest416 rfl (c_okU rfl fun v418 => (c_ok (rest416 - v418) rfl (q_put (i := 5) [.v (.d (enc metre411)), .v (.d (enc data412)), .v (.d (enc energy413)), .v (.d (enc friction414)), .v (.d (enc strength415)), .v (.d (enc (rest416 - v418))), .v (.d (enc metre411.a)), .v (.d (enc metre411.b)), .v (.d (enc metre411.c))] rfl rfl (s_nx (s := (rest416 - v418)) rfl)))))))) (fun _ => (q_end (s_nx (s := rest416) rfl)))) (by intro s417 ρ h; subst h; exact (q_seq (q_if (c_okb (decide (energy413 = (0 : Int))) (p_tst (p_bin (x := enc energy413) (y := enc (0 : Int)) rfl rfl (k_eq energy413 (0 : Int)))) (q_ite (fun _ => (q_ret (c_ok (0 : Int) rfl (s_rt (0 : Int) rfl)))) (fun _ => (q_end (q_ret (c_ok (max (0 : Int) s417) (p_arg (p_cons (x := enc (0 : Int)) rfl (p_cons (x := enc s417) rfl p_nil)) rfl) (s_rt (max (0 : Int) s417) rfl))))))))))))))))))))))))))))))))))
def t_law_layout (rows419 : (List (T3 Str Int Int))) : Res C20 :=
 ((compS (fun _ => (.ok true)) (fun x420 =>
 (.ok x420)) rows419) >>= fun v421 =>
 ((t_layout_init v421) >>= fun r422 =>
 (.ok r422)))
theorem r_law_layout (rows419 : (List (T3 Str Int Int))) : Le enc (m_law_layout [enc rows419]) (t_law_layout rows419) := by
  unfold m_law_layout b_law_layout t_law_layout
  exact le_fn [.v (.d (enc rows419)), .no] rfl (q_ret (c_mk (c_cons (c_toE (c_comp (c_okg (encs rows419) (p_unF (x := enc rows419) rfl (k_seq _)) (c_leaf (e := encs) (le_comp [.v (.d (enc rows419)), .no] rfl (fun x420 => [.v (.d (enc rows419)), .v (.d (enc x420))]) (fun x420 => rfl) (fun x420 => ⟨rfl⟩) (fun x420 => (le_sim (ρ := [.v (.d (enc rows419)), .v (.d (enc x420))]) (c_ok x420 rfl (e_val x420 rfl))))) trivial fun v421 => (c_nil (c_leaf (r_layout_init v421) trivial fun r422 => (s_rt r422 rfl))))))))))
def t_law_train (data423 : (R5 Int (T2 Int Int) (T2 Int Int) Int Int)) : Res C21 :=
 ((t_train_init data423.a data423.b data423.c data423.d data423.e) >>= fun r424 =>
 (.ok r424))
theorem r_law_train (data423 : (R5 Int (T2 Int Int) (T2 Int Int) Int Int)) : Le enc (m_law_train [enc data423]) (t_law_train data423) := by
  unfold m_law_train b_law_train t_law_train
  exact le_fn [.v (.d (enc data423))] rfl (q_ret (c_mk (c_cons (c_ok data423.a (p_bin (x := enc data423) (y := enc (0 : Int)) rfl rfl rfl) (c_cons (c_ok data423.b (p_bin (x := enc data423) (y := enc (1 : Int)) rfl rfl rfl) (c_cons (c_ok data423.c (p_bin (x := enc data423) (y := enc (2 : Int)) rfl rfl rfl) (c_cons (c_ok data423.d (p_bin (x := enc data423) (y := enc (3 : Int)) rfl rfl rfl) (c_cons (c_ok data423.e (p_bin (x := enc data423) (y := enc (4 : Int)) rfl rfl rfl) (c_nil (c_leaf (r_train_init data423.a data423.b data423.c data423.d data423.e) trivial fun r424 => (s_rt r424 rfl)))))))))))))))
def t_law_safe_rows (draws425 : (List Int)) : Res (List (T3 Str Int Int)) :=
 ((idxT draws425 (0 : Int)) >>= fun v426 =>
 ((idxT draws425 (1 : Int)) >>= fun v427 =>
 ((idxT draws425 (2 : Int)) >>= fun v428 =>
 ((idxT draws425 (3 : Int)) >>= fun v429 =>
 ((idxT draws425 (4 : Int)) >>= fun v430 =>
 (.ok ([(⟨("coast" : Str), (4 : Int), (0 : Int)⟩ : (T3 Str Int Int)), (⟨("lift" : Str), ((2 : Int) + (v426 % (5 : Int))), ((5 : Int) + (v427 % (26 : Int)))⟩ : (T3 Str Int Int)), (⟨("coast" : Str), ((2 : Int) + (v426 % (5 : Int))), ((0 : Int) - ((5 : Int) + (v427 % (26 : Int))))⟩ : (T3 Str Int Int)), (⟨("brake" : Str), ((3 : Int) + (v428 % (4 : Int))), (0 : Int)⟩ : (T3 Str Int Int)), (⟨("coast" : Str), ((4 : Int) + (v429 % (4 : Int))), (0 : Int)⟩ : (T3 Str Int Int)), (⟨("brake" : Str), ((3 : Int) + (v430 % (4 : Int))), (0 : Int)⟩ : (T3 Str Int Int))] : (List (T3 Str Int Int)))))))))
theorem r_law_safe_rows (draws425 : (List Int)) : Le enc (m_law_safe_rows [enc draws425]) (t_law_safe_rows draws425) := by
  unfold m_law_safe_rows b_law_safe_rows t_law_safe_rows
  exact le_fn [.v (.d (enc draws425)), .no, .no] rfl (q_seq (q_set (c_bin (c_ok (2 : Int) rfl (c_bin (c_bin (c_ok draws425 rfl (c_ok (0 : Int) rfl (c_leaf (le_idx draws425 (0 : Int)) trivial fun v426 => (c_ok (5 : Int) rfl (c_ok (v426 % (5 : Int)) (k_mod v426 (5 : Int) (by decide)) (c_ok ((2 : Int) + (v426 % (5 : Int))) rfl (q_put (i := 1) [.v (.d (enc draws425)), .v (.d (enc ((2 : Int) + (v426 % (5 : Int))))), .no] rfl rfl (q_seq (q_set (c_bin (c_ok (5 : Int) rfl (c_bin (c_bin (c_ok draws425 rfl (c_ok (1 : Int) rfl (c_leaf (le_idx draws425 (1 : Int)) trivial fun v427 => (c_ok (26 : Int) rfl (c_ok (v427 % (26 : Int)) (k_mod v427 (26 : Int) (by decide)) (c_ok ((5 : Int) + (v427 % (26 : Int))) rfl (q_put (i := 2) [.v (.d (enc draws425)), .v (.d (enc ((2 : Int) + (v426 % (5 : Int))))), .v (.d (enc ((5 : Int) + (v427 % (26 : Int)))))] rfl rfl (q_ret (c_toE (c_lst (c_cons (c_ok (⟨("coast" : Str), (4 : Int), (0 : Int)⟩ : (T3 Str Int Int)) (p_tup (p_cons (x := enc ("coast" : Str)) rfl (p_cons (x := enc (4 : Int)) rfl (p_cons (x := enc (0 : Int)) rfl p_nil))) rfl) (c_cons (c_ok (⟨("lift" : Str), ((2 : Int) + (v426 % (5 : Int))), ((5 : Int) + (v427 % (26 : Int)))⟩ : (T3 Str Int Int)) (p_tup (p_cons (x := enc ("lift" : Str)) rfl (p_cons (x := enc ((2 : Int) + (v426 % (5 : Int)))) rfl (p_cons (x := enc ((5 : Int) + (v427 % (26 : Int)))) rfl p_nil))) rfl) (c_cons (c_ok (⟨("coast" : Str), ((2 : Int) + (v426 % (5 : Int))), ((0 : Int) - ((5 : Int) + (v427 % (26 : Int))))⟩ : (T3 Str Int Int)) (p_tup (p_cons (x := enc ("coast" : Str)) rfl (p_cons (x := enc ((2 : Int) + (v426 % (5 : Int)))) rfl (p_cons (x := enc ((0 : Int) - ((5 : Int) + (v427 % (26 : Int))))) (p_bin (x := enc (0 : Int)) (y := enc ((5 : Int) + (v427 % (26 : Int)))) rfl rfl rfl) p_nil))) rfl) (c_cons (c_tup (c_cons (c_ok ("brake" : Str) rfl (c_cons (c_bin (c_ok (3 : Int) rfl (c_bin (c_bin (c_ok draws425 rfl (c_ok (2 : Int) rfl (c_leaf (le_idx draws425 (2 : Int)) trivial fun v428 => (c_ok (4 : Int) rfl (c_ok (v428 % (4 : Int)) (k_mod v428 (4 : Int) (by decide)) (c_ok ((3 : Int) + (v428 % (4 : Int))) rfl (c_cons (c_ok (0 : Int) rfl (c_nil (c_ok (⟨("brake" : Str), ((3 : Int) + (v428 % (4 : Int))), (0 : Int)⟩ : (T3 Str Int Int)) (p_size rfl) (c_cons (c_tup (c_cons (c_ok ("coast" : Str) rfl (c_cons (c_bin (c_ok (4 : Int) rfl (c_bin (c_bin (c_ok draws425 rfl (c_ok (3 : Int) rfl (c_leaf (le_idx draws425 (3 : Int)) trivial fun v429 => (c_ok (4 : Int) rfl (c_ok (v429 % (4 : Int)) (k_mod v429 (4 : Int) (by decide)) (c_ok ((4 : Int) + (v429 % (4 : Int))) rfl (c_cons (c_ok (0 : Int) rfl (c_nil (c_ok (⟨("coast" : Str), ((4 : Int) + (v429 % (4 : Int))), (0 : Int)⟩ : (T3 Str Int Int)) (p_size rfl) (c_cons (c_tup (c_cons (c_ok ("brake" : Str) rfl (c_cons (c_bin (c_ok (3 : Int) rfl (c_bin (c_bin (c_ok draws425 rfl (c_ok (4 : Int) rfl (c_leaf (le_idx draws425 (4 : Int)) trivial fun v430 => (c_ok (4 : Int) rfl (c_ok (v430 % (4 : Int)) (k_mod v430 (4 : Int) (by decide)) (c_ok ((3 : Int) + (v430 % (4 : Int))) rfl (c_cons (c_ok (0 : Int) rfl (c_nil (c_ok (⟨("brake" : Str), ((3 : Int) + (v430 % (4 : Int))), (0 : Int)⟩ : (T3 Str Int Int)) (p_size rfl) (c_nil (c_okg (encs ([(⟨("coast" : Str), (4 : Int), (0 : Int)⟩ : (T3 Str Int Int)), (⟨("lift" : Str), ((2 : Int) + (v426 % (5 : Int))), ((5 : Int) + (v427 % (26 : Int)))⟩ : (T3 Str Int Int)), (⟨("coast" : Str), ((2 : Int) + (v426 % (5 : Int))), ((0 : Int) - ((5 : Int) + (v427 % (26 : Int))))⟩ : (T3 Str Int Int)), (⟨("brake" : Str), ((3 : Int) + (v428 % (4 : Int))), (0 : Int)⟩ : (T3 Str Int Int)), (⟨("coast" : Str), ((4 : Int) + (v429 % (4 : Int))), (0 : Int)⟩ : (T3 Str Int Int)), (⟨("brake" : Str), ((3 : Int) + (v430 % (4 : Int))), (0 : Int)⟩ : (T3 Str Int Int))] : (List (T3 Str Int Int)))) (p_size rfl) (s_rt ([(⟨("coast" : Str), (4 : Int), (0 : Int)⟩ : (T3 Str Int Int)), (⟨("lift" : Str), ((2 : Int) + (v426 % (5 : Int))), ((5 : Int) + (v427 % (26 : Int)))⟩ : (T3 Str Int Int)), (⟨("coast" : Str), ((2 : Int) + (v426 % (5 : Int))), ((0 : Int) - ((5 : Int) + (v427 % (26 : Int))))⟩ : (T3 Str Int Int)), (⟨("brake" : Str), ((3 : Int) + (v428 % (4 : Int))), (0 : Int)⟩ : (T3 Str Int Int)), (⟨("coast" : Str), ((4 : Int) + (v429 % (4 : Int))), (0 : Int)⟩ : (T3 Str Int Int)), (⟨("brake" : Str), ((3 : Int) + (v430 % (4 : Int))), (0 : Int)⟩ : (T3 Str Int Int))] : (List (T3 Str Int Int))) rfl)))))))))))))))))))))))))))))))))))))))))))))))))))))))))))))))))))))))))))))))))))))))))))))))
def t_law_safe_train (draws431 : (List Int)) : Res (R5 Int (T2 Int Int) (T2 Int Int) Int Int) :=
 ((idxT draws431 (5 : Int)) >>= fun v432 =>
 ((idxT draws431 (6 : Int)) >>= fun v433 =>
 ((idxT draws431 (7 : Int)) >>= fun v434 =>
 ((idxT draws431 (8 : Int)) >>= fun v435 =>
 ((idxT draws431 (9 : Int)) >>= fun v436 =>
 ((idxT draws431 (10 : Int)) >>= fun v437 =>
 ((idxT draws431 (11 : Int)) >>= fun v438 =>
 (.ok (⟨((1 : Int) + (v434 % (4 : Int))), (⟨(v432 % (60 : Int)), ((v432 % (60 : Int)) + (v435 % (60 : Int)))⟩ : (T2 Int Int)), (⟨((400000 : Int) + ((7 : Int) * v433)), (((400000 : Int) + ((7 : Int) * v433)) + ((11 : Int) * v436))⟩ : (T2 Int Int)), ((40000 : Int) + v437), ((20000 : Int) + v438)⟩ : (R5 Int (T2 Int Int) (T2 Int Int) Int Int))))))))))
theorem r_law_safe_train (draws431 : (List Int)) : Le enc (m_law_safe_train [enc draws431]) (t_law_safe_train draws431) := by
  unfold m_law_safe_train b_law_safe_train t_law_safe_train
  exact le_fn [.v (.d (enc draws431)), .no, .no] rfl (q_seq (q_set (c_bin (c_bin (c_ok draws431 rfl (c_ok (5 : Int) rfl (c_leaf (le_idx draws431 (5 : Int)) trivial fun v432 => (c_ok (60 : Int) rfl (c_ok (v432 % (60 : Int)) (k_mod v432 (60 : Int) (by decide)) (q_put (i := 1) [.v (.d (enc draws431)), .v (.d (enc (v432 % (60 : Int)))), .no] rfl rfl (q_seq (q_set (c_bin (c_ok (400000 : Int) rfl (c_bin (c_ok (7 : Int) rfl (c_bin (c_ok draws431 rfl (c_ok (6 : Int) rfl (c_leaf (le_idx draws431 (6 : Int)) trivial fun v433 => (c_ok ((7 : Int) * v433) (k_mull (7 : Int) v433 (by decide)) (c_ok ((400000 : Int) + ((7 : Int) * v433)) rfl (q_put (i := 2) [.v (.d (enc draws431)), .v (.d (enc (v432 % (60 : Int)))), .v (.d (enc ((400000 : Int) + ((7 : Int) * v433))))] rfl rfl (q_ret (c_toE (c_lst (c_cons (c_bin (c_ok (1 : Int) rfl (c_bin (c_bin (c_ok draws431 rfl (c_ok (7 : Int) rfl (c_leaf (le_idx draws431 (7 : Int)) trivial fun v434 => (c_ok (4 : Int) rfl (c_ok (v434 % (4 : Int)) (k_mod v434 (4 : Int) (by decide)) (c_ok ((1 : Int) + (v434 % (4 : Int))) rfl (c_cons (c_tup (c_cons (c_ok (v432 % (60 : Int)) rfl (c_cons (c_bin (c_ok (v432 % (60 : Int)) rfl (c_bin (c_bin (c_ok draws431 rfl (c_ok (8 : Int) rfl (c_leaf (le_idx draws431 (8 : Int)) trivial fun v435 => (c_ok (60 : Int) rfl (c_ok (v435 % (60 : Int)) (k_mod v435 (60 : Int) (by decide)) (c_ok ((v432 % (60 : Int)) + (v435 % (60 : Int))) rfl (c_nil (c_ok (⟨(v432 % (60 : Int)), ((v432 % (60 : Int)) + (v435 % (60 : Int)))⟩ : (T2 Int Int)) (p_size rfl) (c_cons (c_tup (c_cons (c_ok ((400000 : Int) + ((7 : Int) * v433)) rfl (c_cons (c_bin (c_ok ((400000 : Int) + ((7 : Int) * v433)) rfl (c_bin (c_ok (11 : Int) rfl (c_bin (c_ok draws431 rfl (c_ok (9 : Int) rfl (c_leaf (le_idx draws431 (9 : Int)) trivial fun v436 => (c_ok ((11 : Int) * v436) (k_mull (11 : Int) v436 (by decide)) (c_ok (((400000 : Int) + ((7 : Int) * v433)) + ((11 : Int) * v436)) rfl (c_nil (c_ok (⟨((400000 : Int) + ((7 : Int) * v433)), (((400000 : Int) + ((7 : Int) * v433)) + ((11 : Int) * v436))⟩ : (T2 Int Int)) (p_size rfl) (c_cons (c_bin (c_ok (40000 : Int) rfl (c_bin (c_ok draws431 rfl (c_ok (10 : Int) rfl (c_leaf (le_idx draws431 (10 : Int)) trivial fun v437 => (c_ok ((40000 : Int) + v437) rfl (c_cons (c_bin (c_ok (20000 : Int) rfl (c_bin (c_ok draws431 rfl (c_ok (11 : Int) rfl (c_leaf (le_idx draws431 (11 : Int)) trivial fun v438 => (c_ok ((20000 : Int) + v438) rfl (c_nil (c_okg [enc (⟨((1 : Int) + (v434 % (4 : Int))), (⟨(v432 % (60 : Int)), ((v432 % (60 : Int)) + (v435 % (60 : Int)))⟩ : (T2 Int Int)), (⟨((400000 : Int) + ((7 : Int) * v433)), (((400000 : Int) + ((7 : Int) * v433)) + ((11 : Int) * v436))⟩ : (T2 Int Int)), ((40000 : Int) + v437), ((20000 : Int) + v438)⟩ : (R5 Int (T2 Int Int) (T2 Int Int) Int Int)).a, enc (⟨((1 : Int) + (v434 % (4 : Int))), (⟨(v432 % (60 : Int)), ((v432 % (60 : Int)) + (v435 % (60 : Int)))⟩ : (T2 Int Int)), (⟨((400000 : Int) + ((7 : Int) * v433)), (((400000 : Int) + ((7 : Int) * v433)) + ((11 : Int) * v436))⟩ : (T2 Int Int)), ((40000 : Int) + v437), ((20000 : Int) + v438)⟩ : (R5 Int (T2 Int Int) (T2 Int Int) Int Int)).b, enc (⟨((1 : Int) + (v434 % (4 : Int))), (⟨(v432 % (60 : Int)), ((v432 % (60 : Int)) + (v435 % (60 : Int)))⟩ : (T2 Int Int)), (⟨((400000 : Int) + ((7 : Int) * v433)), (((400000 : Int) + ((7 : Int) * v433)) + ((11 : Int) * v436))⟩ : (T2 Int Int)), ((40000 : Int) + v437), ((20000 : Int) + v438)⟩ : (R5 Int (T2 Int Int) (T2 Int Int) Int Int)).c, enc (⟨((1 : Int) + (v434 % (4 : Int))), (⟨(v432 % (60 : Int)), ((v432 % (60 : Int)) + (v435 % (60 : Int)))⟩ : (T2 Int Int)), (⟨((400000 : Int) + ((7 : Int) * v433)), (((400000 : Int) + ((7 : Int) * v433)) + ((11 : Int) * v436))⟩ : (T2 Int Int)), ((40000 : Int) + v437), ((20000 : Int) + v438)⟩ : (R5 Int (T2 Int Int) (T2 Int Int) Int Int)).d, enc (⟨((1 : Int) + (v434 % (4 : Int))), (⟨(v432 % (60 : Int)), ((v432 % (60 : Int)) + (v435 % (60 : Int)))⟩ : (T2 Int Int)), (⟨((400000 : Int) + ((7 : Int) * v433)), (((400000 : Int) + ((7 : Int) * v433)) + ((11 : Int) * v436))⟩ : (T2 Int Int)), ((40000 : Int) + v437), ((20000 : Int) + v438)⟩ : (R5 Int (T2 Int Int) (T2 Int Int) Int Int)).e] (p_size rfl) (s_rt (⟨((1 : Int) + (v434 % (4 : Int))), (⟨(v432 % (60 : Int)), ((v432 % (60 : Int)) + (v435 % (60 : Int)))⟩ : (T2 Int Int)), (⟨((400000 : Int) + ((7 : Int) * v433)), (((400000 : Int) + ((7 : Int) * v433)) + ((11 : Int) * v436))⟩ : (T2 Int Int)), ((40000 : Int) + v437), ((20000 : Int) + v438)⟩ : (R5 Int (T2 Int Int) (T2 Int Int) Int Int)) rfl))))))))))))))))))))))))))))))))))))))))))))))))))))))))))))))))))))))))))))))))))))))))))
def t_law_rolled (metres439 : (List (T3 Str Int Int))) (data440 : (R5 Int (T2 Int Int) (T2 Int Int) Int Int)) (first441 : Int) (energy442 : Int) (frictions443 : (List Int)) (strengths444 : (List (Option Int))) : Res (List Int) :=
 ((rngT (frictions443.length : Int)) >>= fun v451 =>
 (foldT (fun (x452 : Int) (s445 : (Int × (List Int))) =>
 ((modT (first441 + x452) (metres439.length : Int)) >>= fun v453 =>
 ((idxT metres439 v453) >>= fun v454 =>
 ((idxT frictions443 x452) >>= fun v455 =>
 ((idxT strengths444 x452) >>= fun v456 =>
 ((t_law_after v454 data440 s445.1 v455 v456) >>= fun energy457 =>
 (appT s445.2 energy457 >>= fun found458 =>
 (.ok (energy457, found458))))))))) v451 (energy442, ([] : (List Int))) >>= fun s448 =>
 (.ok s448.2)))
theorem r_law_rolled (metres439 : (List (T3 Str Int Int))) (data440 : (R5 Int (T2 Int Int) (T2 Int Int) Int Int)) (first441 : Int) (energy442 : Int) (frictions443 : (List Int)) (strengths444 : (List (Option Int))) : Le enc (m_law_rolled [enc metres439, enc data440, enc first441, enc energy442, enc frictions443, enc strengths444]) (t_law_rolled metres439 data440 first441 energy442 frictions443 strengths444) := by
  unfold m_law_rolled b_law_rolled t_law_rolled
  exact le_fn [.v (.d (enc metres439)), .v (.d (enc data440)), .v (.d (enc first441)), .v (.d (enc energy442)), .v (.d (enc frictions443)), .v (.d (enc strengths444)), .no, .no] rfl (q_seq (q_setO (c_okg (encs ([] : (List Int))) (p_lst p_nil rfl) (q_put (i := 6) [.v (.d (enc metres439)), .v (.d (enc data440)), .v (.d (enc first441)), .v (.d (enc energy442)), .v (.d (enc frictions443)), .v (.d (enc strengths444)), .v (.ol (encs ([] : (List Int)))), .no] rfl rfl (q_seq (q_for (c_arg (c_cons (c_ok (frictions443.length : Int) (p_arg (p_cons (x := enc frictions443) rfl p_nil) (k_len frictions443)) (c_nil (c_leaf (e := encs) (le_rng (frictions443.length : Int)) trivial fun v451 => (q_fold (I := (fun (s : (Int × (List Int))) (ρ : Env) => ∃ u0 : Sl, ρ = [.v (.d (enc metres439)), .v (.d (enc data440)), .v (.d (enc first441)), .v (.d (enc s.1)), .v (.d (enc frictions443)), .v (.d (enc strengths444)), .v (.ol (encs s.2)), u0] ∧ fre u0)) (s0 := (energy442, ([] : (List Int)))) ⟨.no, rfl, fre_no⟩ (by intro x452 s445 ρ h; obtain ⟨u446, rfl, w447⟩ := h; exact (q_opt [.v (.d (enc metres439)), .v (.d (enc data440)), .v (.d (enc first441)), .v (.d (enc s445.1)), .v (.d (enc frictions443)), .v (.d (enc strengths444)), .v (.ol (encs s445.2)), .v (.d (enc x452))] (g_n (i := 7) (ok_fre rfl w447) rfl) (q_seq (q_set (c_arg (c_cons (c_bin (c_ok metres439 rfl (c_bin (c_ok (first441 + x452) (p_bin (x := enc first441) (y := enc x452) rfl rfl rfl) (c_ok (metres439.length : Int) (p_arg (p_cons (x := enc metres439) rfl p_nil) (k_len metres439)) (c_leaf (le_mod (first441 + x452) (metres439.length : Int)) trivial fun v453 => (c_leaf (le_idx metres439 v453) trivial fun v454 => (c_cons (c_ok data440 rfl (c_cons (c_ok s445.1 rfl (c_cons (c_bin (c_ok frictions443 rfl (c_ok x452 rfl (c_leaf (le_idx frictions443 x452) trivial fun v455 => (c_cons (c_bin (c_ok strengths444 rfl (c_ok x452 rfl (c_leaf (le_idx strengths444 x452) trivial fun v456 => (c_nil (c_leaf (r_law_after v454 data440 s445.1 v455 v456) trivial fun energy457 => (q_put (i := 3) [.v (.d (enc metres439)), .v (.d (enc data440)), .v (.d (enc first441)), .v (.d (enc energy457)), .v (.d (enc frictions443)), .v (.d (enc strengths444)), .v (.ol (encs s445.2)), .v (.d (enc x452))] rfl rfl (q_lm (encs s445.2) (fun ys => [.v (.d (enc metres439)), .v (.d (enc data440)), .v (.d (enc first441)), .v (.d (enc energy457)), .v (.d (enc frictions443)), .v (.d (enc strengths444)), .v (.ol ys), .v (.d (enc x452))]) rfl (fun _ => rfl) (c_cons (c_ok energy457 rfl (c_nil (c_leaf (e := encs) (le_app s445.2 energy457 _ rfl) trivial fun found458 => (s_nx (s := (energy457, found458)) ⟨.v (.d (enc x452)), rfl, (fre_v _)⟩)))))))))))))))))))))))))))))))))))) (by intro s448 ρ h; obtain ⟨u449, rfl, w450⟩ := h; exact (q_frz [.v (.d (enc metres439)), .v (.d (enc data440)), .v (.d (enc first441)), .v (.d (enc s448.1)), .v (.d (enc frictions443)), .v (.d (enc strengths444)), .v (.d (enc s448.2)), u449] rfl (q_ret (c_ok s448.2 rfl (s_rt s448.2 rfl)))))))))))))))))
def t_law_brake_of (metres459 : (List (T3 Str Int Int))) (block460 : Int) : Res Int :=
 ((rngT (metres459.length : Int)) >>= fun v461 =>
 ((compS (fun x462 => ((idxT metres459 x462) >>= fun v463 =>
 (andR (decide (v463.c = block460)) ((idxT metres459 x462) >>= fun v464 =>
 (.ok (decide (v464.a = ("brake" : Str))))) >>= fun b465 =>
 (.ok b465)))) (fun x462 =>
 (.ok x462)) v461) >>= fun v466 =>
 ((idxT v466 (0 : Int)) >>= fun r467 =>
 (.ok r467))))
theorem r_law_brake_of (metres459 : (List (T3 Str Int Int))) (block460 : Int) : Le enc (m_law_brake_of [enc metres459, enc block460]) (t_law_brake_of metres459 block460) := by
  unfold m_law_brake_of b_law_brake_of t_law_brake_of
  exact le_fn [.v (.d (enc metres459)), .v (.d (enc block460)), .no] rfl (q_ret (c_bin (c_toE (c_comp (c_arg (c_cons (c_ok (metres459.length : Int) (p_arg (p_cons (x := enc metres459) rfl p_nil) (k_len metres459)) (c_nil (c_leaf (e := encs) (le_rng (metres459.length : Int)) trivial fun v461 => (c_leaf (e := encs) (le_comp [.v (.d (enc metres459)), .v (.d (enc block460)), .no] rfl (fun x462 => [.v (.d (enc metres459)), .v (.d (enc block460)), .v (.d (enc x462))]) (fun x462 => rfl) (fun x462 => (le_simb (ρ := [.v (.d (enc metres459)), .v (.d (enc block460)), .v (.d (enc x462))]) (c_and (c_tst (c_bin (c_bin (c_bin (c_ok metres459 rfl (c_ok x462 rfl (c_leaf (le_idx metres459 x462) trivial fun v463 => (c_ok (2 : Int) rfl (c_ok v463.c rfl (c_ok block460 rfl (c_ok (decide (v463.c = block460)) (k_eq v463.c block460) (c_tru (c_leaf (le_and fun _ => (le_simb (ρ := [.v (.d (enc metres459)), .v (.d (enc block460)), .v (.d (enc x462))]) (c_tst (c_bin (c_bin (c_bin (c_ok metres459 rfl (c_ok x462 rfl (c_leaf (le_idx metres459 x462) trivial fun v464 => (c_ok (0 : Int) rfl (c_ok v464.a rfl (c_ok ("brake" : Str) rfl (c_ok (decide (v464.a = ("brake" : Str))) (k_eq v464.a ("brake" : Str)) (c_tru (e_val (decide (v464.a = ("brake" : Str))) rfl))))))))))))))) trivial fun b465 => (e_val b465 rfl))))))))))))))))) (fun x462 => (le_sim (ρ := [.v (.d (enc metres459)), .v (.d (enc block460)), .v (.d (enc x462))]) (c_ok x462 rfl (e_val x462 rfl))))) trivial fun v466 => (c_ok (0 : Int) rfl (c_leaf (le_idx v466 (0 : Int)) trivial fun r467 => (s_rt r467 rfl)))))))))))))
def t_law (script468 : Scr) : Res Bool :=
 ((t_law_cell script468 (0 : Int)) >>= fun v469 =>
 ((t_law_draws v469 (60 : Int)) >>= fun draws470 =>
 ((t_law_safe_rows draws470) >>= fun rows471 =>
 ((t_law_safe_train draws470) >>= fun data472 =>
 ((idxT draws470 (20 : Int)) >>= fun v473 =>
 ((if (decide ((v473 % (4 : Int)) = (0 : Int))) = true then
 ((t_law_drawn_layout draws470) >>= fun rows475 =>
 ((t_law_drawn_train draws470) >>= fun data476 =>
 (letT (⟨data476.a, data476.b, (⟨(data476.c.b + (400000 : Int)), (data476.c.b + (500000 : Int))⟩ : (T2 Int Int)), data476.d, data476.e⟩ : (R5 Int (T2 Int Int) (T2 Int Int) Int Int)) fun data477 =>
 (letT (⟨(1 : Int), data477.b, data477.c, data477.d, data477.e⟩ : (R5 Int (T2 Int Int) (T2 Int Int) Int Int)) fun data478 =>
 (.ok (rows475, data478))))))
 else (.ok (rows471, data472)) : Res ((List (T3 Str Int Int)) × (R5 Int (T2 Int Int) (T2 Int Int) Int Int))) >>= fun s474 =>
 ((t_law_metres s474.1) >>= fun metres479 =>
 ((t_law_layout s474.1) >>= fun layout480 =>
 ((t_law_train s474.2) >>= fun train481 =>
 ((t_faults layout480 train481) >>= fun v482 =>
 (if (decide ((0 : Int) < (v482.length : Int))) = true then
 ((idxT draws470 (20 : Int)) >>= fun v483 =>
 (.ok (decide ((v483 % (4 : Int)) = (0 : Int)))))
 else ((t_greatest_energies layout480 train481) >>= fun greatest484 =>
 ((idxT metres479 (-1 : Int)) >>= fun v523 =>
 ((rngT (v523.c + (1 : Int))) >>= fun v524 =>
 (onF (forT (R := Bool) (fun (x525 : Int) (s485 : (R5 Int (T2 Int Int) (T2 Int Int) Int Int)) =>
 ((rngT (metres479.length : Int)) >>= fun v526 =>
 ((compS (fun x527 => ((idxT metres479 x527) >>= fun v528 =>
 (.ok (decide (v528.c = x525))))) (fun x527 =>
 (.ok x527)) v526) >>= fun own529 =>
 ((t_law_brake_of metres479 x525) >>= fun v530 =>
 ((idxT own529 (0 : Int)) >>= fun v531 =>
 ((rngT (own529.length : Int)) >>= fun v532 =>
 ((compS (fun _ => (.ok true)) (fun x533 =>
 ((idxT draws470 ((((7 : Int) * x525) + x533) % (60 : Int))) >>= fun v534 =>
 ((modT v534 ((s485.b.b - s485.b.a) + (1 : Int))) >>= fun v535 =>
 (.ok (s485.b.a + v535))))) v532) >>= fun frictions536 =>
 ((rngT (own529.length : Int)) >>= fun v537 =>
 ((compS (fun _ => (.ok true)) (fun x538 =>
 ((idxT draws470 ((((5 : Int) * x525) + x538) % (60 : Int))) >>= fun v539 =>
 ((modT v539 ((s485.c.b - s485.c.a) + (1 : Int))) >>= fun v540 =>
 (.ok (some (s485.c.a + v540)))))) v537) >>= fun strengths541 =>
 ((idxT own529 (0 : Int)) >>= fun v542 =>
 ((idxT greatest484 v542) >>= fun v543 =>
 ((idxT own529 (0 : Int)) >>= fun v558 =>
 ((idxT greatest484 v558) >>= fun v559 =>
 ((idxT draws470 x525) >>= fun v560 =>
 ((mulT (v543 - s485.e) (v560 % (100 : Int))) >>= fun v561 =>
 (onF (forT (R := Bool) (fun (x562 : Int) (s544 : (R5 Int (T2 Int Int) (T2 Int Int) Int Int)) =>
 ((idxT own529 (0 : Int)) >>= fun v563 =>
 ((t_law_rolled metres479 s544 v563 x562 frictions536 strengths541) >>= fun closed564 =>
 ((idxT own529 (0 : Int)) >>= fun v565 =>
 ((compS (fun _ => (.ok true)) (fun x566 =>
 (.ok (none : (Option Int)))) own529) >>= fun v567 =>
 ((t_law_rolled metres479 s544 v565 x562 frictions536 v567) >>= fun opened568 =>
 (orR (decide ((0 : Int) ∈ (cutG closed564 none (some (v530 - v531))))) (orR (!decide ((0 : Int) ∈ (cutG closed564 (some (v530 - v531)) none))) (orR (decide ((0 : Int) ∈ opened568)) ((idxT opened568 (-1 : Int)) >>= fun v569 =>
 (.ok (decide (v569 < s544.e)))) >>= fun b570 =>
 (.ok b570)) >>= fun b571 =>
 (.ok b571)) >>= fun b572 =>
 (if b572 = true then
 (.ok (.ret false))
 else (.ok (.nxt s544)))))))))) ([s485.e, v559, (s485.e + (v561 / (100 : Int)))] : (List Int)) s485) (fun r => .ok (.ret r)) fun s551 =>
 (.ok (.nxt s551)))))))))))))))))) v524 s474.2) (fun r => .ok r) fun s504 =>
 (.ok true))))))))))))))))
theorem r_law (script468 : Scr) : Le enc (m_law [enc script468]) (t_law script468) := by
  unfold m_law b_law t_law
  exact le_fn [.v (.d (enc script468)), .no, .no, .no, .no, .no, .no, .no, .no, .no, .no, .no, .no, .no, .no, .no, .no, .no] rfl (q_seq (q_set (c_arg (c_cons (c_arg (c_cons (c_ok script468 rfl (c_cons (c_ok (0 : Int) rfl (c_nil (c_leaf (r_law_cell script468 (0 : Int)) trivial fun v469 => (c_cons (c_ok (60 : Int) rfl (c_nil (c_leaf (r_law_draws v469 (60 : Int)) trivial fun draws470 => (q_put (i := 1) [.v (.d (enc script468)), .v (.d (enc draws470)), .no, .no, .no, .no, .no, .no, .no, .no, .no, .no, .no, .no, .no, .no, .no, .no] rfl rfl (q_seq (q_set (c_arg (c_cons (c_ok draws470 rfl (c_nil (c_leaf (r_law_safe_rows draws470) trivial fun rows471 => (q_put (i := 2) [.v (.d (enc script468)), .v (.d (enc draws470)), .v (.d (enc rows471)), .no, .no, .no, .no, .no, .no, .no, .no, .no, .no, .no, .no, .no, .no, .no] rfl rfl (q_seq (q_setO (c_argO (c_cons (c_ok draws470 rfl (c_nil (c_leaf (e := fun y => [enc y.a, enc y.b, enc y.c, enc y.d, enc y.e]) (le_own (r_law_safe_train draws470) (fun _ => rfl) (fun _ => rfl) (fun _ => rfl) (fl_cons fl_nil)) trivial fun data472 => (q_put (i := 3) [.v (.d (enc script468)), .v (.d (enc draws470)), .v (.d (enc rows471)), .v (.ol [enc data472.a, enc data472.b, enc data472.c, enc data472.d, enc data472.e]), .no, .no, .no, .no, .no, .no, .no, .no, .no, .no, .no, .no, .no, .no] rfl rfl (q_seq (q_if (c_tst (c_bin (c_bin (c_bin (c_ok draws470 rfl (c_ok (20 : Int) rfl (c_leaf (le_idx draws470 (20 : Int)) trivial fun v473 => (c_ok (4 : Int) rfl (c_ok (v473 % (4 : Int)) (k_mod v473 (4 : Int) (by decide)) (c_ok (0 : Int) rfl (c_ok (decide ((v473 % (4 : Int)) = (0 : Int))) (k_eq (v473 % (4 : Int)) (0 : Int)) (c_tru (q_join (I := (fun (s : ((List (T3 Str Int Int)) × (R5 Int (T2 Int Int) (T2 Int Int) Int Int))) (ρ : Env) => ρ = [.v (.d (enc script468)), .v (.d (enc draws470)), .v (.d (enc s.1)), .v (.ol [enc s.2.a, enc s.2.b, enc s.2.c, enc s.2.d, enc s.2.e]), .no, .no, .no, .no, .no, .no, .no, .no, .no, .no, .no, .no, .no, .no])) (q_ite (fun _ => (q_seq (q_set (c_arg (c_cons (c_ok draws470 rfl (c_nil (c_leaf (r_law_drawn_layout draws470) trivial fun rows475 => (q_put (i := 2) [.v (.d (enc script468)), .v (.d (enc draws470)), .v (.d (enc rows475)), .v (.ol [enc data472.a, enc data472.b, enc data472.c, enc data472.d, enc data472.e]), .no, .no, .no, .no, .no, .no, .no, .no, .no, .no, .no, .no, .no, .no] rfl rfl (q_seq (q_setO (c_argO (c_cons (c_ok draws470 rfl (c_nil (c_leaf (e := fun y => [enc y.a, enc y.b, enc y.c, enc y.d, enc y.e]) (le_own (r_law_drawn_train draws470) (fun _ => rfl) (fun _ => rfl) (fun _ => rfl) (fl_cons fl_nil)) trivial fun data476 => (q_put (i := 3) [.v (.d (enc script468)), .v (.d (enc draws470)), .v (.d (enc rows475)), .v (.ol [enc data476.a, enc data476.b, enc data476.c, enc data476.d, enc data476.e]), .no, .no, .no, .no, .no, .no, .no, .no, .no, .no, .no, .no, .no, .no] rfl rfl (q_seq (q_setix [enc data476.a, enc data476.b, enc data476.c, enc data476.d, enc data476.e] (fun ys => [.v (.d (enc script468)), .v (.d (enc draws470)), .v (.d (enc rows475)), .v (.ol ys), .no, .no, .no, .no, .no, .no, .no, .no, .no, .no, .no, .no, .no, .no]) rfl (fun _ => rfl) (c_ok (⟨(data476.c.b + (400000 : Int)), (data476.c.b + (500000 : Int))⟩ : (T2 Int Int)) (p_tup (p_cons (x := enc (data476.c.b + (400000 : Int))) (p_bin (x := enc data476.c.b) (y := enc (400000 : Int)) (p_bin (x := enc data476.c) (y := enc (1 : Int)) (p_bin (x := enc data476) (y := enc (2 : Int)) rfl rfl rfl) rfl rfl) rfl rfl) (p_cons (x := enc (data476.c.b + (500000 : Int))) (p_bin (x := enc data476.c.b) (y := enc (500000 : Int)) (p_bin (x := enc data476.c) (y := enc (1 : Int)) (p_bin (x := enc data476) (y := enc (2 : Int)) rfl rfl rfl) rfl rfl) rfl rfl) p_nil)) rfl) (c_ok (2 : Int) rfl (c_okgL (fun y => [enc y.a, enc y.b, enc y.c, enc y.d, enc y.e]) (⟨data476.a, data476.b, (⟨(data476.c.b + (400000 : Int)), (data476.c.b + (500000 : Int))⟩ : (T2 Int Int)), data476.d, data476.e⟩ : (R5 Int (T2 Int Int) (T2 Int Int) Int Int)) rfl fun data477 => (q_setix [enc data477.a, enc data477.b, enc data477.c, enc data477.d, enc data477.e] (fun ys => [.v (.d (enc script468)), .v (.d (enc draws470)), .v (.d (enc rows475)), .v (.ol ys), .no, .no, .no, .no, .no, .no, .no, .no, .no, .no, .no, .no, .no, .no]) rfl (fun _ => rfl) (c_ok (1 : Int) rfl (c_ok (0 : Int) rfl (c_okgL (fun y => [enc y.a, enc y.b, enc y.c, enc y.d, enc y.e]) (⟨(1 : Int), data477.b, data477.c, data477.d, data477.e⟩ : (R5 Int (T2 Int Int) (T2 Int Int) Int Int)) rfl fun data478 => (s_nx (s := (rows475, data478)) rfl))))))))))))))))))))))))))) (fun _ => (q_end (s_nx (s := (rows471, data472)) rfl)))) (by intro s474 ρ h; subst h; exact (q_seq (q_set (c_arg (c_cons (c_ok s474.1 rfl (c_nil (c_leaf (r_law_metres s474.1) trivial fun metres479 => (q_put (i := 4) [.v (.d (enc script468)), .v (.d (enc draws470)), .v (.d (enc s474.1)), .v (.ol [enc s474.2.a, enc s474.2.b, enc s474.2.c, enc s474.2.d, enc s474.2.e]), .v (.d (enc metres479)), .no, .no, .no, .no, .no, .no, .no, .no, .no, .no, .no, .no, .no] rfl rfl (q_seq (q_set (c_arg (c_cons (c_ok s474.1 rfl (c_nil (c_leaf (r_law_layout s474.1) trivial fun layout480 => (q_put (i := 5) [.v (.d (enc script468)), .v (.d (enc draws470)), .v (.d (enc s474.1)), .v (.ol [enc s474.2.a, enc s474.2.b, enc s474.2.c, enc s474.2.d, enc s474.2.e]), .v (.d (enc metres479)), .v (.d (enc layout480)), .no, .no, .no, .no, .no, .no, .no, .no, .no, .no, .no, .no] rfl rfl (q_frz [.v (.d (enc script468)), .v (.d (enc draws470)), .v (.d (enc s474.1)), .v (.d (enc s474.2)), .v (.d (enc metres479)), .v (.d (enc layout480)), .no, .no, .no, .no, .no, .no, .no, .no, .no, .no, .no, .no] rfl (q_seq (q_set (c_arg (c_cons (c_ok s474.2 rfl (c_nil (c_leaf (r_law_train s474.2) trivial fun train481 => (q_put (i := 6) [.v (.d (enc script468)), .v (.d (enc draws470)), .v (.d (enc s474.1)), .v (.d (enc s474.2)), .v (.d (enc metres479)), .v (.d (enc layout480)), .v (.d (enc train481)), .no, .no, .no, .no, .no, .no, .no, .no, .no, .no, .no] rfl rfl (q_seq (q_if (c_tst (c_bin (c_arg (c_cons (c_arg (c_cons (c_ok layout480 rfl (c_cons (c_ok train481 rfl (c_nil (c_leaf (r_faults layout480 train481) trivial fun v482 => (c_nil (c_ok (v482.length : Int) (k_len v482) (c_ok (0 : Int) rfl (c_ok (decide ((0 : Int) < (v482.length : Int))) rfl (c_tru (q_ite (fun _ => (q_ret (c_bin (c_bin (c_bin (c_ok draws470 rfl (c_ok (20 : Int) rfl (c_leaf (le_idx draws470 (20 : Int)) trivial fun v483 => (c_ok (4 : Int) rfl (c_ok (v483 % (4 : Int)) (k_mod v483 (4 : Int) (by decide)) (c_ok (0 : Int) rfl (c_ok (decide ((v483 % (4 : Int)) = (0 : Int))) (k_eq (v483 % (4 : Int)) (0 : Int)) (s_rt (decide ((v483 % (4 : Int)) = (0 : Int))) rfl))))))))))))) (fun _ => (q_end (q_seq (q_set (c_arg (c_cons (c_ok layout480 rfl (c_cons (c_ok train481 rfl (c_nil (c_leaf (r_greatest_energies layout480 train481) trivial fun greatest484 => (q_put (i := 7) [.v (.d (enc script468)), .v (.d (enc draws470)), .v (.d (enc s474.1)), .v (.d (enc s474.2)), .v (.d (enc metres479)), .v (.d (enc layout480)), .v (.d (enc train481)), .v (.d (enc greatest484)), .no, .no, .no, .no, .no, .no, .no, .no, .no, .no] rfl rfl (q_seq (q_for (c_arg (c_cons (c_bin (c_bin (c_bin (c_ok metres479 rfl (c_ok (-1 : Int) (p_un (x := enc (1 : Int)) rfl rfl) (c_leaf (le_idx metres479 (-1 : Int)) trivial fun v523 => (c_ok (2 : Int) rfl (c_ok v523.c rfl (c_ok (1 : Int) rfl (c_ok (v523.c + (1 : Int)) rfl (c_nil (c_leaf (e := encs) (le_rng (v523.c + (1 : Int))) trivial fun v524 => (q_forR (I := (fun (s : (R5 Int (T2 Int Int) (T2 Int Int) Int Int)) (ρ : Env) => ∃ u0 u1 u2 u3 u4 u5 u6 u7 u8 : Sl, ρ = [.v (.d (enc script468)), .v (.d (enc draws470)), .v (.d (enc s474.1)), .v (.d (enc s)), .v (.d (enc metres479)), .v (.d (enc layout480)), .v (.d (enc train481)), .v (.d (enc greatest484)), u0, u1, u2, u3, u4, u5, u6, u7, u8, .no] ∧ fre u0 ∧ fre u1 ∧ fre u2 ∧ fre u3 ∧ fre u4 ∧ fre u5 ∧ fre u6 ∧ fre u7 ∧ fre u8)) (s0 := s474.2) ⟨.no, .no, .no, .no, .no, .no, .no, .no, .no, rfl, fre_no, fre_no, fre_no, fre_no, fre_no, fre_no, fre_no, fre_no, fre_no⟩ (by intro x525 s485 ρ h; obtain ⟨u486, u488, u490, u492, u494, u496, u498, u500, u502, rfl, w487, w489, w491, w493, w495, w497, w499, w501, w503⟩ := h; exact (q_opt [.v (.d (enc script468)), .v (.d (enc draws470)), .v (.d (enc s474.1)), .v (.d (enc s485)), .v (.d (enc metres479)), .v (.d (enc layout480)), .v (.d (enc train481)), .v (.d (enc greatest484)), .v (.d (enc x525)), u488, u490, u492, u494, u496, u498, u500, u502, .no] (g_n (i := 8) (ok_fre rfl w487) rfl) (q_seq (q_set (c_toE (c_comp (c_arg (c_cons (c_ok (metres479.length : Int) (p_arg (p_cons (x := enc metres479) rfl p_nil) (k_len metres479)) (c_nil (c_leaf (e := encs) (le_rng (metres479.length : Int)) trivial fun v526 => (c_leaf (e := encs) (le_comp [.v (.d (enc script468)), .v (.d (enc draws470)), .v (.d (enc s474.1)), .v (.d (enc s485)), .v (.d (enc metres479)), .v (.d (enc layout480)), .v (.d (enc train481)), .v (.d (enc greatest484)), .v (.d (enc x525)), u488, u490, u492, u494, u496, u498, u500, u502, .no] rfl (fun x527 => [.v (.d (enc script468)), .v (.d (enc draws470)), .v (.d (enc s474.1)), .v (.d (enc s485)), .v (.d (enc metres479)), .v (.d (enc layout480)), .v (.d (enc train481)), .v (.d (enc greatest484)), .v (.d (enc x525)), u488, u490, u492, u494, u496, u498, u500, u502, .v (.d (enc x527))]) (fun x527 => rfl) (fun x527 => (le_simb (ρ := [.v (.d (enc script468)), .v (.d (enc draws470)), .v (.d (enc s474.1)), .v (.d (enc s485)), .v (.d (enc metres479)), .v (.d (enc layout480)), .v (.d (enc train481)), .v (.d (enc greatest484)), .v (.d (enc x525)), u488, u490, u492, u494, u496, u498, u500, u502, .v (.d (enc x527))]) (c_tst (c_bin (c_bin (c_bin (c_ok metres479 rfl (c_ok x527 rfl (c_leaf (le_idx metres479 x527) trivial fun v528 => (c_ok (2 : Int) rfl (c_ok v528.c rfl (c_ok x525 rfl (c_ok (decide (v528.c = x525)) (k_eq v528.c x525) (c_tru (e_val (decide (v528.c = x525)) rfl))))))))))))))) (fun x527 => (le_sim (ρ := [.v (.d (enc script468)), .v (.d (enc draws470)), .v (.d (enc s474.1)), .v (.d (enc s485)), .v (.d (enc metres479)), .v (.d (enc layout480)), .v (.d (enc train481)), .v (.d (enc greatest484)), .v (.d (enc x525)), u488, u490, u492, u494, u496, u498, u500, u502, .v (.d (enc x527))]) (c_ok x527 rfl (e_val x527 rfl))))) trivial fun own529 => (q_put (i := 9) [.v (.d (enc script468)), .v (.d (enc draws470)), .v (.d (enc s474.1)), .v (.d (enc s485)), .v (.d (enc metres479)), .v (.d (enc layout480)), .v (.d (enc train481)), .v (.d (enc greatest484)), .v (.d (enc x525)), .v (.d (enc own529)), u490, u492, u494, u496, u498, u500, u502, .no] (ok_fre rfl w489) rfl (q_seq (q_set (c_bin (c_arg (c_cons (c_ok metres479 rfl (c_cons (c_ok x525 rfl (c_nil (c_leaf (r_law_brake_of metres479 x525) trivial fun v530 => (c_bin (c_ok own529 rfl (c_ok (0 : Int) rfl (c_leaf (le_idx own529 (0 : Int)) trivial fun v531 => (c_ok (v530 - v531) rfl (q_put (i := 10) [.v (.d (enc script468)), .v (.d (enc draws470)), .v (.d (enc s474.1)), .v (.d (enc s485)), .v (.d (enc metres479)), .v (.d (enc layout480)), .v (.d (enc train481)), .v (.d (enc greatest484)), .v (.d (enc x525)), .v (.d (enc own529)), .v (.d (enc (v530 - v531))), u492, u494, u496, u498, u500, u502, .no] (ok_fre rfl w491) rfl (q_seq (q_set (c_toE (c_comp (c_arg (c_cons (c_ok (own529.length : Int) (p_arg (p_cons (x := enc own529) rfl p_nil) (k_len own529)) (c_nil (c_leaf (e := encs) (le_rng (own529.length : Int)) trivial fun v532 => (c_leaf (e := encs) (le_comp [.v (.d (enc script468)), .v (.d (enc draws470)), .v (.d (enc s474.1)), .v (.d (enc s485)), .v (.d (enc metres479)), .v (.d (enc layout480)), .v (.d (enc train481)), .v (.d (enc greatest484)), .v (.d (enc x525)), .v (.d (enc own529)), .v (.d (enc (v530 - v531))), u492, u494, u496, u498, u500, u502, .no] rfl (fun x533 => [.v (.d (enc script468)), .v (.d (enc draws470)), .v (.d (enc s474.1)), .v (.d (enc s485)), .v (.d (enc metres479)), .v (.d (enc layout480)), .v (.d (enc train481)), .v (.d (enc greatest484)), .v (.d (enc x525)), .v (.d (enc own529)), .v (.d (enc (v530 - v531))), u492, u494, u496, u498, u500, u502, .v (.d (enc x533))]) (fun x533 => rfl) (fun x533 => ⟨rfl⟩) (fun x533 => (le_sim (ρ := [.v (.d (enc script468)), .v (.d (enc draws470)), .v (.d (enc s474.1)), .v (.d (enc s485)), .v (.d (enc metres479)), .v (.d (enc layout480)), .v (.d (enc train481)), .v (.d (enc greatest484)), .v (.d (enc x525)), .v (.d (enc own529)), .v (.d (enc (v530 - v531))), u492, u494, u496, u498, u500, u502, .v (.d (enc x533))]) (c_bin (c_ok s485.b.a (p_bin (x := enc s485.b) (y := enc (0 : Int)) (p_bin (x := enc s485) (y := enc (1 : Int)) rfl rfl rfl) rfl rfl) (c_bin (c_bin (c_ok draws470 rfl (c_ok ((((7 : Int) * x525) + x533) % (60 : Int)) (p_bin (x := enc (((7 : Int) * x525) + x533)) (y := enc (60 : Int)) (p_bin (x := enc ((7 : Int) * x525)) (y := enc x533) (p_bin (x := enc (7 : Int)) (y := enc x525) rfl rfl (k_mull (7 : Int) x525 (by decide))) rfl rfl) rfl (k_mod (((7 : Int) * x525) + x533) (60 : Int) (by decide))) (c_leaf (le_idx draws470 ((((7 : Int) * x525) + x533) % (60 : Int))) trivial fun v534 => (c_ok ((s485.b.b - s485.b.a) + (1 : Int)) (p_bin (x := enc (s485.b.b - s485.b.a)) (y := enc (1 : Int)) (p_bin (x := enc s485.b.b) (y := enc s485.b.a) (p_bin (x := enc s485.b) (y := enc (1 : Int)) (p_bin (x := enc s485) (y := enc (1 : Int)) rfl rfl rfl) rfl rfl) (p_bin (x := enc s485.b) (y := enc (0 : Int)) (p_bin (x := enc s485) (y := enc (1 : Int)) rfl rfl rfl) rfl rfl) rfl) rfl rfl) (c_leaf (le_mod v534 ((s485.b.b - s485.b.a) + (1 : Int))) trivial fun v535 => (c_ok (s485.b.a + v535) rfl (e_val (s485.b.a + v535) rfl)))))))))))))) trivial fun frictions536 => (q_put (i := 11) [.v (.d (enc script468)), .v (.d (enc draws470)), .v (.d (enc s474.1)), .v (.d (enc s485)), .v (.d (enc metres479)), .v (.d (enc layout480)), .v (.d (enc train481)), .v (.d (enc greatest484)), .v (.d (enc x525)), .v (.d (enc own529)), .v (.d (enc (v530 - v531))), .v (.d (enc frictions536)), u494, u496, u498, u500, u502, .no] (ok_fre rfl w493) rfl (q_seq (q_set (c_toE (c_comp (c_arg (c_cons (c_ok (own529.length : Int) (p_arg (p_cons (x := enc own529) rfl p_nil) (k_len own529)) (c_nil (c_leaf (e := encs) (le_rng (own529.length : Int)) trivial fun v537 => (c_leaf (e := encs) (le_comp [.v (.d (enc script468)), .v (.d (enc draws470)), .v (.d (enc s474.1)), .v (.d (enc s485)), .v (.d (enc metres479)), .v (.d (enc layout480)), .v (.d (enc train481)), .v (.d (enc greatest484)), .v (.d (enc x525)), .v (.d (enc own529)), .v (.d (enc (v530 - v531))), .v (.d (enc frictions536)), u494, u496, u498, u500, u502, .no] rfl (fun x538 => [.v (.d (enc script468)), .v (.d (enc draws470)), .v (.d (enc s474.1)), .v (.d (enc s485)), .v (.d (enc metres479)), .v (.d (enc layout480)), .v (.d (enc train481)), .v (.d (enc greatest484)), .v (.d (enc x525)), .v (.d (enc own529)), .v (.d (enc (v530 - v531))), .v (.d (enc frictions536)), u494, u496, u498, u500, u502, .v (.d (enc x538))]) (fun x538 => rfl) (fun x538 => ⟨rfl⟩) (fun x538 => (le_sim (ρ := [.v (.d (enc script468)), .v (.d (enc draws470)), .v (.d (enc s474.1)), .v (.d (enc s485)), .v (.d (enc metres479)), .v (.d (enc layout480)), .v (.d (enc train481)), .v (.d (enc greatest484)), .v (.d (enc x525)), .v (.d (enc own529)), .v (.d (enc (v530 - v531))), .v (.d (enc frictions536)), u494, u496, u498, u500, u502, .v (.d (enc x538))]) (c_bin (c_ok s485.c.a (p_bin (x := enc s485.c) (y := enc (0 : Int)) (p_bin (x := enc s485) (y := enc (2 : Int)) rfl rfl rfl) rfl rfl) (c_bin (c_bin (c_ok draws470 rfl (c_ok ((((5 : Int) * x525) + x538) % (60 : Int)) (p_bin (x := enc (((5 : Int) * x525) + x538)) (y := enc (60 : Int)) (p_bin (x := enc ((5 : Int) * x525)) (y := enc x538) (p_bin (x := enc (5 : Int)) (y := enc x525) rfl rfl (k_mull (5 : Int) x525 (by decide))) rfl rfl) rfl (k_mod (((5 : Int) * x525) + x538) (60 : Int) (by decide))) (c_leaf (le_idx draws470 ((((5 : Int) * x525) + x538) % (60 : Int))) trivial fun v539 => (c_ok ((s485.c.b - s485.c.a) + (1 : Int)) (p_bin (x := enc (s485.c.b - s485.c.a)) (y := enc (1 : Int)) (p_bin (x := enc s485.c.b) (y := enc s485.c.a) (p_bin (x := enc s485.c) (y := enc (1 : Int)) (p_bin (x := enc s485) (y := enc (2 : Int)) rfl rfl rfl) rfl rfl) (p_bin (x := enc s485.c) (y := enc (0 : Int)) (p_bin (x := enc s485) (y := enc (2 : Int)) rfl rfl rfl) rfl rfl) rfl) rfl rfl) (c_leaf (le_mod v539 ((s485.c.b - s485.c.a) + (1 : Int))) trivial fun v540 => (c_ok (some (s485.c.a + v540)) rfl (e_val (some (s485.c.a + v540)) rfl)))))))))))))) trivial fun strengths541 => (q_put (i := 12) [.v (.d (enc script468)), .v (.d (enc draws470)), .v (.d (enc s474.1)), .v (.d (enc s485)), .v (.d (enc metres479)), .v (.d (enc layout480)), .v (.d (enc train481)), .v (.d (enc greatest484)), .v (.d (enc x525)), .v (.d (enc own529)), .v (.d (enc (v530 - v531))), .v (.d (enc frictions536)), .v (.d (enc strengths541)), u496, u498, u500, u502, .no] (ok_fre rfl w495) rfl (q_seq (q_set (c_bin (c_bin (c_ok greatest484 rfl (c_bin (c_ok own529 rfl (c_ok (0 : Int) rfl (c_leaf (le_idx own529 (0 : Int)) trivial fun v542 => (c_leaf (le_idx greatest484 v542) trivial fun v543 => (c_ok s485.e (p_bin (x := enc s485) (y := enc (4 : Int)) rfl rfl rfl) (c_ok (v543 - s485.e) rfl (q_put (i := 13) [.v (.d (enc script468)), .v (.d (enc draws470)), .v (.d (enc s474.1)), .v (.d (enc s485)), .v (.d (enc metres479)), .v (.d (enc layout480)), .v (.d (enc train481)), .v (.d (enc greatest484)), .v (.d (enc x525)), .v (.d (enc own529)), .v (.d (enc (v530 - v531))), .v (.d (enc frictions536)), .v (.d (enc strengths541)), .v (.d (enc (v543 - s485.e))), u498, u500, u502, .no] (ok_fre rfl w497) rfl (q_for (c_unF (c_toE (c_lst (c_cons (c_ok s485.e (p_bin (x := enc s485) (y := enc (4 : Int)) rfl rfl rfl) (c_cons (c_bin (c_ok greatest484 rfl (c_bin (c_ok own529 rfl (c_ok (0 : Int) rfl (c_leaf (le_idx own529 (0 : Int)) trivial fun v558 => (c_leaf (le_idx greatest484 v558) trivial fun v559 => (c_cons (c_bin (c_ok s485.e (p_bin (x := enc s485) (y := enc (4 : Int)) rfl rfl rfl) (c_bin (c_bin (c_ok (v543 - s485.e) rfl (c_bin (c_bin (c_ok draws470 rfl (c_ok x525 rfl (c_leaf (le_idx draws470 x525) trivial fun v560 => (c_ok (100 : Int) rfl (c_ok (v560 % (100 : Int)) (k_mod v560 (100 : Int) (by decide)) (c_leaf (le_mul (v543 - s485.e) (v560 % (100 : Int))) trivial fun v561 => (c_ok (100 : Int) rfl (c_ok (v561 / (100 : Int)) (k_fdiv v561 (100 : Int) (by decide)) (c_ok (s485.e + (v561 / (100 : Int))) rfl (c_nil (c_okg (encs ([s485.e, v559, (s485.e + (v561 / (100 : Int)))] : (List Int))) (p_size rfl) (c_okl ([s485.e, v559, (s485.e + (v561 / (100 : Int)))] : (List Int)) (k_seq _) (q_forR (I := (fun (s : (R5 Int (T2 Int Int) (T2 Int Int) Int Int)) (ρ : Env) => ∃ u0 u1 u2 : Sl, ρ = [.v (.d (enc script468)), .v (.d (enc draws470)), .v (.d (enc s474.1)), .v (.d (enc s)), .v (.d (enc metres479)), .v (.d (enc layout480)), .v (.d (enc train481)), .v (.d (enc greatest484)), .v (.d (enc x525)), .v (.d (enc own529)), .v (.d (enc (v530 - v531))), .v (.d (enc frictions536)), .v (.d (enc strengths541)), .v (.d (enc (v543 - s485.e))), u0, u1, u2, .no] ∧ fre u0 ∧ fre u1 ∧ fre u2)) (s0 := s485) ⟨u498, u500, u502, rfl, w499, w501, w503⟩ (by intro x562 s544 ρ h; obtain ⟨u545, u547, u549, rfl, w546, w548, w550⟩ := h; exact (q_opt [.v (.d (enc script468)), .v (.d (enc draws470)), .v (.d (enc s474.1)), .v (.d (enc s544)), .v (.d (enc metres479)), .v (.d (enc layout480)), .v (.d (enc train481)), .v (.d (enc greatest484)), .v (.d (enc x525)), .v (.d (enc own529)), .v (.d (enc (v530 - v531))), .v (.d (enc frictions536)), .v (.d (enc strengths541)), .v (.d (enc (v543 - s485.e))), .v (.d (enc x562)), u547, u549, .no] (g_n (i := 14) (ok_fre rfl w546) rfl) (q_frz [.v (.d (enc script468)), .v (.d (enc draws470)), .v (.d (enc s474.1)), .v (.d (enc s544)), .v (.d (enc metres479)), .v (.d (enc layout480)), .v (.d (enc train481)), .v (.d (enc greatest484)), .v (.d (enc x525)), .v (.d (enc own529)), .v (.d (enc (v530 - v531))), .v (.d (enc frictions536)), .v (.d (enc strengths541)), .v (.d (enc (v543 - s485.e))), .v (.d (enc x562)), u547, u549, .no] rfl (q_seq (q_set (c_arg (c_cons (c_ok metres479 rfl (c_cons (c_ok s544 rfl (c_cons (c_bin (c_ok own529 rfl (c_ok (0 : Int) rfl (c_leaf (le_idx own529 (0 : Int)) trivial fun v563 => (c_cons (c_ok x562 rfl (c_cons (c_ok frictions536 rfl (c_cons (c_ok strengths541 rfl (c_nil (c_leaf (r_law_rolled metres479 s544 v563 x562 frictions536 strengths541) trivial fun closed564 => (q_put (i := 15) [.v (.d (enc script468)), .v (.d (enc draws470)), .v (.d (enc s474.1)), .v (.d (enc s544)), .v (.d (enc metres479)), .v (.d (enc layout480)), .v (.d (enc train481)), .v (.d (enc greatest484)), .v (.d (enc x525)), .v (.d (enc own529)), .v (.d (enc (v530 - v531))), .v (.d (enc frictions536)), .v (.d (enc strengths541)), .v (.d (enc (v543 - s485.e))), .v (.d (enc x562)), .v (.d (enc closed564)), u549, .no] (ok_fre rfl w548) rfl (q_frz [.v (.d (enc script468)), .v (.d (enc draws470)), .v (.d (enc s474.1)), .v (.d (enc s544)), .v (.d (enc metres479)), .v (.d (enc layout480)), .v (.d (enc train481)), .v (.d (enc greatest484)), .v (.d (enc x525)), .v (.d (enc own529)), .v (.d (enc (v530 - v531))), .v (.d (enc frictions536)), .v (.d (enc strengths541)), .v (.d (enc (v543 - s485.e))), .v (.d (enc x562)), .v (.d (enc closed564)), u549, .no] rfl (q_seq (q_set (c_arg (c_cons (c_ok metres479 rfl (c_cons (c_ok s544 rfl (c_cons (c_bin (c_ok own529 rfl (c_ok (0 : Int) rfl (c_leaf (le_idx own529 (0 : Int)) trivial fun v565 => (c_cons (c_ok x562 rfl (c_cons (c_ok frictions536 rfl (c_cons (c_toE (c_comp (c_okg (encs own529) (p_unF (x := enc own529) rfl (k_seq _)) (c_leaf (e := encs) (le_comp [.v (.d (enc script468)), .v (.d (enc draws470)), .v (.d (enc s474.1)), .v (.d (enc s544)), .v (.d (enc metres479)), .v (.d (enc layout480)), .v (.d (enc train481)), .v (.d (enc greatest484)), .v (.d (enc x525)), .v (.d (enc own529)), .v (.d (enc (v530 - v531))), .v (.d (enc frictions536)), .v (.d (enc strengths541)), .v (.d (enc (v543 - s485.e))), .v (.d (enc x562)), .v (.d (enc closed564)), u549, .no] rfl (fun x566 => [.v (.d (enc script468)), .v (.d (enc draws470)), .v (.d (enc s474.1)), .v (.d (enc s544)), .v (.d (enc metres479)), .v (.d (enc layout480)), .v (.d (enc train481)), .v (.d (enc greatest484)), .v (.d (enc x525)), .v (.d (enc own529)), .v (.d (enc (v530 - v531))), .v (.d (enc frictions536)), .v (.d (enc strengths541)), .v (.d (enc (v543 - s485.e))), .v (.d (enc x562)), .v (.d (enc closed564)), u549, .v (.d (enc x566))]) (fun x566 => rfl) (fun x566 => ⟨rfl⟩) (fun x566 => (le_sim (ρ := [.v (.d (enc script468)), .v (.d (enc draws470)), .v (.d (enc s474.1)), .v (.d (enc s544)), .v (.d (enc metres479)), .v (.d (enc layout480)), .v (.d (enc train481)), .v (.d (enc greatest484)), .v (.d (enc x525)), .v (.d (enc own529)), .v (.d (enc (v530 - v531))), .v (.d (enc frictions536)), .v (.d (enc strengths541)), .v (.d (enc (v543 - s485.e))), .v (.d (enc x562)), .v (.d (enc closed564)), u549, .v (.d (enc x566))]) (c_ok (none : (Option Int)) rfl (e_val (none : (Option Int)) rfl))))) trivial fun v567 => (c_nil (c_leaf (r_law_rolled metres479 s544 v565 x562 frictions536 v567) trivial fun opened568 => (q_put (i := 16) [.v (.d (enc script468)), .v (.d (enc draws470)), .v (.d (enc s474.1)), .v (.d (enc s544)), .v (.d (enc metres479)), .v (.d (enc layout480)), .v (.d (enc train481)), .v (.d (enc greatest484)), .v (.d (enc x525)), .v (.d (enc own529)), .v (.d (enc (v530 - v531))), .v (.d (enc frictions536)), .v (.d (enc strengths541)), .v (.d (enc (v543 - s485.e))), .v (.d (enc x562)), .v (.d (enc closed564)), .v (.d (enc opened568)), .no] (ok_fre rfl w550) rfl (q_if (c_or (c_okb (decide ((0 : Int) ∈ (cutG closed564 none (some (v530 - v531))))) (p_tst (p_bin (x := enc (0 : Int)) (y := enc (cutG closed564 none (some (v530 - v531)))) rfl (p_sl (x := enc closed564) rfl rfl (p_part rfl) (k_cutD _ _ _)) (k_in (0 : Int) (cutG closed564 none (some (v530 - v531)))))) (c_leaf (le_or fun _ => (le_simb (ρ := [.v (.d (enc script468)), .v (.d (enc draws470)), .v (.d (enc s474.1)), .v (.d (enc s544)), .v (.d (enc metres479)), .v (.d (enc layout480)), .v (.d (enc train481)), .v (.d (enc greatest484)), .v (.d (enc x525)), .v (.d (enc own529)), .v (.d (enc (v530 - v531))), .v (.d (enc frictions536)), .v (.d (enc strengths541)), .v (.d (enc (v543 - s485.e))), .v (.d (enc x562)), .v (.d (enc closed564)), .v (.d (enc opened568)), .no]) (c_or (c_okb (!decide ((0 : Int) ∈ (cutG closed564 (some (v530 - v531)) none))) (p_tst (p_bin (x := enc (0 : Int)) (y := enc (cutG closed564 (some (v530 - v531)) none)) rfl (p_sl (x := enc closed564) rfl (p_part rfl) rfl (k_cutD _ _ _)) (k_nin (0 : Int) (cutG closed564 (some (v530 - v531)) none)))) (c_leaf (le_or fun _ => (le_simb (ρ := [.v (.d (enc script468)), .v (.d (enc draws470)), .v (.d (enc s474.1)), .v (.d (enc s544)), .v (.d (enc metres479)), .v (.d (enc layout480)), .v (.d (enc train481)), .v (.d (enc greatest484)), .v (.d (enc x525)), .v (.d (enc own529)), .v (.d (enc (v530 - v531))), .v (.d (enc frictions536)), .v (.d (enc strengths541)), .v (.d (enc (v543 - s485.e))), .v (.d (enc x562)), .v (.d (enc closed564)), .v (.d (enc opened568)), .no]) (c_or (c_okb (decide ((0 : Int) ∈ opened568)) (p_tst (p_bin (x := enc (0 : Int)) (y := enc opened568) rfl rfl (k_in (0 : Int) opened568))) (c_leaf (le_or fun _ => (le_simb (ρ := [.v (.d (enc script468)), .v (.d (enc draws470)), .v (.d (enc s474.1)), .v (.d (enc s544)), .v (.d (enc metres479)), .v (.d (enc layout480)), .v (.d (enc train481)), .v (.d (enc greatest484)), .v (.d (enc x525)), .v (.d (enc own529)), .v (.d (enc (v530 - v531))), .v (.d (enc frictions536)), .v (.d (enc strengths541)), .v (.d (enc (v543 - s485.e))), .v (.d (enc x562)), .v (.d (enc closed564)), .v (.d (enc opened568)), .no]) (c_tst (c_bin (c_bin (c_ok opened568 rfl (c_ok (-1 : Int) (p_un (x := enc (1 : Int)) rfl rfl) (c_leaf (le_idx opened568 (-1 : Int)) trivial fun v569 => (c_ok s544.e (p_bin (x := enc s544) (y := enc (4 : Int)) rfl rfl rfl) (c_ok (decide (v569 < s544.e)) rfl (c_tru (e_val (decide (v569 < s544.e)) rfl)))))))))))) trivial fun b570 => (e_val b570 rfl)))))) trivial fun b571 => (e_val b571 rfl)))))) trivial fun b572 => (q_ite (fun _ => (q_ret (c_ok false rfl (s_rtR false rfl)))) (fun _ => (q_end (s_nxR (s := s544) ⟨.v (.d (enc x562)), .v (.d (enc closed564)), .v (.d (enc opened568)), rfl, (fre_v _), (fre_v _), (fre_v _)⟩))))))))))))))))))))))))))))))))))))))))))))))))))))))))) s_rtR0 (by intro s551 ρ h; obtain ⟨u552, u554, u556, rfl, w553, w555, w557⟩ := h; exact (s_nxR (s := s551) ⟨.v (.d (enc x525)), .v (.d (enc own529)), .v (.d (enc (v530 - v531))), .v (.d (enc frictions536)), .v (.d (enc strengths541)), .v (.d (enc (v543 - s485.e))), u552, u554, u556, rfl, (fre_v _), (fre_v _), (fre_v _), (fre_v _), (fre_v _), (fre_v _), w553, w555, w557⟩))))))))))))))))))))))))))))))))))))))))))))))))))))))))))))))))))))))))))))))))))))))))))))))))))))) s_rt0 (by intro s504 ρ h; obtain ⟨u505, u507, u509, u511, u513, u515, u517, u519, u521, rfl, w506, w508, w510, w512, w514, w516, w518, w520, w522⟩ := h; exact (q_ret (c_ok true rfl (s_rt true rfl)))))))))))))))))))))))))))))))))))))))))))))))))))))))))))))))))))))))))))))))))))))))))))))))))))))))))))))))))))))))))))))
end Cr
/-! plain lemmas over the typed words -/
namespace Cr
open PySem L2
theorem atI_nt {α : Type} (xs : List α) (k : Nat) (h : k < xs.length) : atI xs (k : Int) = some xs[k] := by
  unfold atI ixN
  rw [if_pos (by omega), if_pos (by omega)]
  simp [h]
theorem idx_nat {α : Type} (xs : List α) (k : Nat) (h : k < xs.length) : idxT xs (k : Int) = .ok xs[k] := by
  unfold idxT; rw [atI_nt xs k h]; rfl
theorem idx_int {α : Type} (xs : List α) (i : Int) (h : 0 ≤ i ∧ i < xs.length) : ∃ (k : Nat) (hk : k < xs.length), i = k ∧ idxT xs i = .ok xs[k] := by
  obtain ⟨k, rfl⟩ : ∃ k : Nat, i = k := ⟨i.toNat, by omega⟩
  exact ⟨k, by omega, rfl, idx_nat xs k (by omega)⟩
theorem idx_last {α : Type} (xs : List α) (x : α) : idxT (xs ++ [x]) (-1) = .ok x := by
  unfold idxT atI ixN
  have hl : (xs ++ [x]).length = xs.length + 1 := by simp
  rw [if_neg (by decide), if_pos (by rw [hl]; omega), hl]
  have e : ((-1 : Int) + ((xs.length + 1 : Nat) : Int)).toNat = xs.length := by omega
  rw [Option.bind_some, e]
  simp [opt]
theorem idx_getD {α : Type} (xs : List α) (d : α) (i : Int) (h : 0 ≤ i ∧ i < xs.length) : idxT xs i = .ok (xs.getD i.toNat d) := by
  obtain ⟨k, hk, rfl, e⟩ := idx_int xs i h
  rw [e, List.getD_eq_getElem?_getD, Int.toNat_natCast, List.getElem?_eq_getElem hk]; rfl
theorem bnd_ok {α β : Type} (a : α) (f : α → Res β) : ((Res.ok a : Res α) >>= f) = f a := rfl
theorem bnd_err {α β : Type} (x : Exc) (f : α → Res β) : ((Res.err x : Res α) >>= f) = .err x := rfl
theorem onF_ret {R σ γ : Type} (r : R) (a : R → Res γ) (b : σ → Res γ) : onF (.ok (.ret r)) a b = a r := rfl
theorem onF_nxt {R σ γ : Type} (s : σ) (a : R → Res γ) (b : σ → Res γ) : onF (.ok (.nxt s)) a b = b s := rfl
theorem onF_err {R σ γ : Type} (x : Exc) (a : R → Res γ) (b : σ → Res γ) : onF (.err x) a b = .err x := rfl
theorem tryT_ok {γ : Type} (cs : List Nat) (c : Nat) (g : γ) (B : Res γ) : tryT cs c (.ok g) B = .ok g := rfl
theorem tryT_err {γ : Type} (cs : List Nat) (c : Nat) (B : Res γ) (h : c ∈ cs) : tryT cs c (.err (.own c)) B = nerr B := by
  show (if c ∈ cs then (if c = c then nerr B else .err (.own c)) else .bad) = _
  rw [if_pos h, if_pos rfl]
theorem app_ok {α : Type} (xs : List α) (x : α) (h : xs.length < 16777216) : appT xs x = .ok (xs ++ [x]) := if_pos h
theorem ext_ok {α : Type} (xs ys : List α) (h : xs.length + ys.length ≤ 16777216) : extT xs ys = .ok (xs ++ ys) := if_pos h
theorem ins0_ok {α : Type} (xs : List α) (x : α) (h : xs.length < 16777216) : insT xs 0 x = .ok (x :: xs) := by
  unfold insT
  rw [if_pos ⟨h, by decide, by decide⟩]; rfl
theorem mul_r (a b : Int) (h : -18446744073709551616 < b ∧ b < 18446744073709551616) : mulT a b = .ok (a * b) := by
  have : mulOk a b := .inl (.inr ⟨by have := h.1; omega, by have := h.2; omega⟩)
  exact if_pos this
theorem mul_l (a b : Int) (h : -18446744073709551616 < a ∧ a < 18446744073709551616) : mulT a b = .ok (a * b) := by
  have : mulOk a b := .inl (.inl ⟨by have := h.1; omega, by have := h.2; omega⟩)
  exact if_pos this
theorem mod_ok (a b : Int) (h : 0 < b) : modT a b = .ok (a % b) := if_pos h
theorem fdiv_ok (a b : Int) (h : 0 < b ∧ b < 18446744073709551616) : fdivT a b = .ok (a / b) := by
  have e : divOk a b := by
    refine ⟨h.1, ?_⟩
    have : b.natAbs < 2 ^ 64 := by omega
    have h0 : b.natAbs ≠ 0 := by omega
    have := (Nat.log2_lt h0).mpr this
    omega
  exact if_pos e
/-! ranges -/
def nis (n : Nat) : List Int := (List.range n).map fun (i : Nat) => (i : Int)
theorem nis_len (n : Nat) : (nis n).length = n := by simp [nis]
theorem nis_get (n k : Nat) (h : k < (nis n).length) : (nis n)[k] = (k : Int) := by simp [nis]
theorem nis_mem {n : Nat} {i : Int} (h : i ∈ nis n) : ∃ k : Nat, k < n ∧ i = k := by
  simp only [nis, List.mem_map, List.mem_range] at h
  obtain ⟨k, hk, rfl⟩ := h
  exact ⟨k, hk, rfl⟩
theorem rangeI_01 (n : Nat) : rangeI 0 1 n = nis n := by
  unfold rangeI nis
  congr 1; funext i; omega
theorem rng_ok (n : Int) (h : n < 4611686018427387904) (h0 : 0 ≤ n) : rngT n = .ok (nis n.toNat) := by
  unfold rngT
  have e : -(2 ^ 62) ≤ n ∧ n < 2 ^ 62 := ⟨by omega, by omega⟩
  rw [if_pos e, rangeI_01]
theorem rng_nat (n : Nat) (h : n < 4611686018427387904) : rngT (n : Int) = .ok (nis n) := by
  rw [rng_ok _ (by omega) (by omega), Int.toNat_natCast]
theorem rangeI_len (lo c : Int) (n : Nat) : (rangeI lo c n).length = n := by simp [rangeI]
theorem rangeI_get (lo c : Int) (n k : Nat) (h : k < n) : (rangeI lo c n)[k]? = some (lo + k * c) := by simp [rangeI, h]
theorem rng2_ok (lo hi : Int) (h : 0 ≤ lo ∧ lo < 4611686018427387904) (h' : 0 ≤ hi ∧ hi < 4611686018427387904) : rng2T lo hi = .ok (rangeI lo 1 (hi - lo).toNat) := by
  unfold rng2T
  have e : -(2 ^ 62) ≤ lo ∧ lo < 2 ^ 62 ∧ -(2 ^ 62) ≤ hi ∧ hi < 2 ^ 62 := ⟨by omega, by omega, by omega, by omega⟩
  rw [if_pos e]
theorem rng3_ok (lo hi : Int) (h : -4611686018427387904 ≤ lo ∧ lo < 4611686018427387904) (h' : -4611686018427387904 ≤ hi ∧ hi < 4611686018427387904) : rng3T lo hi (-1) = .ok (rangeI lo (-1) (lo - hi).toNat) := by
  unfold rng3T
  have e : (-1 : Int) = -1 ∧ -(2 ^ 62) ≤ lo ∧ lo < 2 ^ 62 ∧ -(2 ^ 62) ≤ hi ∧ hi < 2 ^ 62 := ⟨rfl, by omega, by omega, by omega, by omega⟩
  rw [if_pos e]
/-! loops -/
theorem foldT_nil {α σ : Type} (f : α → σ → Res σ) (s : σ) : foldT f [] s = .ok s := rfl
theorem foldT_cons {α σ : Type} (f : α → σ → Res σ) (x : α) (xs : List α) (s : σ) : foldT f (x :: xs) s = (f x s >>= foldT f xs) := rfl
theorem foldT_append {α σ : Type} (f : α → σ → Res σ) : ∀ (xs ys : List α) (s : σ), foldT f (xs ++ ys) s = (foldT f xs s >>= foldT f ys)
  | [], ys, s => rfl
  | x :: xs, ys, s => by
    rw [List.cons_append, foldT_cons, foldT_cons]
    cases f x s with
    | ok s' => exact foldT_append f xs ys s'
    | err x => rfl
    | bad => rfl
theorem foldT_inv {α σ : Type} (I : Nat → σ → Prop) {f : α → σ → Res σ} : ∀ (xs : List α) (k : Nat) (s : σ), I k s →
    (∀ j x s, xs[j]? = some x → I (k + j) s → ∃ s', f x s = .ok s' ∧ I (k + j + 1) s') → ∃ s', foldT f xs s = .ok s' ∧ I (k + xs.length) s'
  | [], k, s, h, _ => ⟨s, rfl, h⟩
  | x :: xs, k, s, h, st => by
    obtain ⟨s1, e1, h1⟩ := st 0 x s rfl h
    obtain ⟨s2, e2, h2⟩ := foldT_inv I xs (k + 1) s1 h1 fun j y s hy hI => by
      have e : k + 1 + j = k + (j + 1) := by omega
      rw [e] at hI ⊢
      have := st (j + 1) y s (by simpa using hy) hI
      have e : k + (j + 1) + 1 = k + (j + 1) + 1 := rfl
      exact this
    refine ⟨s2, by rw [foldT_cons, e1]; exact e2, ?_⟩
    have e : k + (x :: xs).length = k + 1 + xs.length := by simp; omega
    rw [e]; exact h2
theorem foldT_nis {σ : Type} (g : Nat → σ) {f : Int → σ → Res σ} (n : Nat) (st : ∀ k : Nat, k < n → f (k : Int) (g k) = .ok (g (k + 1))) : foldT f (nis n) (g 0) = .ok (g n) := by
  obtain ⟨s', e, h⟩ := foldT_inv (fun k s => s = g k) (f := f) (nis n) 0 (g 0) rfl fun j x s hx hs => by
    have hj : j < n := by
      have := (List.getElem?_eq_some_iff.mp hx).1
      rw [nis_len] at this; exact this
    have hx : x = (j : Int) := by
      obtain ⟨hl, e⟩ := List.getElem?_eq_some_iff.mp hx
      rw [← e, nis_get]
    subst hx
    rw [Nat.zero_add] at hs ⊢
    subst hs
    exact ⟨_, st j hj, rfl⟩
  rw [e, h, Nat.zero_add, nis_len]
theorem foldT_rng {σ : Type} (g : Nat → σ) {f : Int → σ → Res σ} (lo c : Int) (n : Nat) (st : ∀ k : Nat, k < n → f (lo + k * c) (g k) = .ok (g (k + 1))) : foldT f (rangeI lo c n) (g 0) = .ok (g n) := by
  obtain ⟨s', e, h⟩ := foldT_inv (fun k s => s = g k) (f := f) (rangeI lo c n) 0 (g 0) rfl fun j x s hx hs => by
    have hj : j < n := by
      have := (List.getElem?_eq_some_iff.mp hx).1
      rw [rangeI_len] at this; exact this
    rw [rangeI_get lo c n j hj] at hx
    cases hx
    rw [Nat.zero_add] at hs ⊢
    subst hs
    exact ⟨_, st j hj, rfl⟩
  rw [e, h, Nat.zero_add, rangeI_len]
theorem foldT_all {α σ : Type} (I : σ → Prop) {f : α → σ → Res σ} (xs : List α) (s : σ) (h : I s) (st : ∀ x ∈ xs, ∀ s, I s → ∃ s', f x s = .ok s' ∧ I s') : ∃ s', foldT f xs s = .ok s' ∧ I s' :=
  foldT_inv (fun _ => I) xs 0 s h fun _ x s hx hI => st x (List.mem_of_getElem? hx) s hI
theorem forT_all {α R : Type} {f : α → Unit → Res (Fl R Unit)} : ∀ (xs : List α), (∀ x ∈ xs, f x () = .ok (.nxt ())) → forT f xs () = .ok (.nxt ())
  | [], _ => rfl
  | x :: xs, h => by
    show onF (f x ()) (fun r => .ok (.ret r)) (forT f xs) = _
    rw [h x (List.mem_cons_self ..), onF_nxt]
    exact forT_all xs fun y hy => h y (List.mem_cons_of_mem _ hy)
theorem forT_inv {α R σ : Type} (I : Nat → σ → Prop) {f : α → σ → Res (Fl R σ)} : ∀ (xs : List α) (k : Nat) (s : σ), I k s →
    (∀ j x s, xs[j]? = some x → I (k + j) s → ∃ s', f x s = .ok (.nxt s') ∧ I (k + j + 1) s') → ∃ s', forT f xs s = .ok (.nxt s') ∧ I (k + xs.length) s'
  | [], k, s, h, _ => ⟨s, rfl, h⟩
  | x :: xs, k, s, h, st => by
    obtain ⟨s1, e1, h1⟩ := st 0 x s rfl h
    obtain ⟨s2, e2, h2⟩ := forT_inv I xs (k + 1) s1 h1 fun j y s hy hI => by
      have e : k + 1 + j = k + (j + 1) := by omega
      rw [e] at hI ⊢
      exact st (j + 1) y s (by simpa using hy) hI
    refine ⟨s2, ?_, ?_⟩
    · show onF (f x s) (fun r => .ok (.ret r)) (forT f xs) = _
      rw [e1, onF_nxt]; exact e2
    · have e : k + (x :: xs).length = k + 1 + xs.length := by simp; omega
      rw [e]; exact h2
theorem fold_bnd {α σ γ : Type} {C : Res γ → Prop} (I : Nat → σ → Prop) {f : α → σ → Res σ} {xs : List α} {s0 : σ} {k : σ → Res γ} (h0 : I 0 s0) (st : ∀ j x s, xs[j]? = some x → I j s → ∃ s', f x s = .ok s' ∧ I (j + 1) s') (hk : ∀ s, I xs.length s → C (k s)) : C (foldT f xs s0 >>= k) := by
  obtain ⟨s, e, h⟩ := foldT_inv I (f := f) xs 0 s0 h0 fun j x s hx hI => by
    rw [Nat.zero_add] at hI ⊢
    exact st j x s hx hI
  rw [e]
  rw [Nat.zero_add] at h
  exact hk s h
theorem fold_nis {σ γ : Type} {C : Res γ → Prop} (I : Nat → σ → Prop) {f : Int → σ → Res σ} {n : Nat} {s0 : σ} {k : σ → Res γ} (h0 : I 0 s0) (st : ∀ j : Nat, j < n → ∀ s, I j s → ∃ s', f (j : Int) s = .ok s' ∧ I (j + 1) s') (hk : ∀ s, I n s → C (k s)) : C (foldT f (nis n) s0 >>= k) := by
  refine fold_bnd I h0 (fun j x s hx hI => ?_) (fun s h => hk s (by rw [nis_len] at h; exact h))
  obtain ⟨hl, rfl⟩ := List.getElem?_eq_some_iff.mp hx
  rw [nis_get]
  rw [nis_len] at hl
  exact st j hl s hI
theorem fold_rng {σ γ : Type} {C : Res γ → Prop} (I : Nat → σ → Prop) {lo c : Int} {f : Int → σ → Res σ} {n : Nat} {s0 : σ} {k : σ → Res γ} (h0 : I 0 s0) (st : ∀ j : Nat, j < n → ∀ s, I j s → ∃ s', f (lo + j * c) s = .ok s' ∧ I (j + 1) s') (hk : ∀ s, I n s → C (k s)) : C (foldT f (rangeI lo c n) s0 >>= k) := by
  refine fold_bnd I h0 (fun j x s hx hI => ?_) (fun s h => hk s (by rw [rangeI_len] at h; exact h))
  have hl : j < n := by
    have := (List.getElem?_eq_some_iff.mp hx).1
    rw [rangeI_len] at this; exact this
  rw [rangeI_get lo c n j hl] at hx
  cases hx
  exact st j hl s hI
theorem for_bnd {α R γ : Type} {C : Res γ → Prop} {f : α → Unit → Res (Fl R Unit)} {xs : List α} {a : R → Res γ} {k : Unit → Res γ} (st : ∀ x ∈ xs, f x () = .ok (.nxt ())) (hk : C (k ())) : C (onF (forT f xs ()) a k) := by
  rw [forT_all xs st, onF_nxt]; exact hk
theorem for_nis {R γ : Type} {C : Res γ → Prop} {f : Int → Unit → Res (Fl R Unit)} {n : Nat} {a : R → Res γ} {k : Unit → Res γ} (st : ∀ j : Nat, j < n → f (j : Int) () = .ok (.nxt ())) (hk : C (k ())) : C (onF (forT f (nis n) ()) a k) :=
  for_bnd (fun x hx => by obtain ⟨j, hj, rfl⟩ := nis_mem hx; exact st j hj) hk
theorem forS_bnd {α R σ γ : Type} {C : Res γ → Prop} (I : Nat → σ → Prop) {f : α → σ → Res (Fl R σ)} {xs : List α} {s0 : σ} {a : R → Res γ} {k : σ → Res γ} (h0 : I 0 s0) (st : ∀ j x s, xs[j]? = some x → I j s → ∃ s', f x s = .ok (.nxt s') ∧ I (j + 1) s') (hk : ∀ s, I xs.length s → C (k s)) : C (onF (forT f xs s0) a k) := by
  obtain ⟨s, e, h⟩ := forT_inv I (f := f) xs 0 s0 h0 fun j x s hx hI => by
    rw [Nat.zero_add] at hI ⊢
    exact st j x s hx hI
  rw [e]
  rw [Nat.zero_add] at h
  exact hk s h
/-! comprehensions -/
theorem comp_id {α : Type} (xs : List α) (h : xs.length ≤ 16777216) : compS (fun _ => .ok true) (fun x => Res.ok x) xs = .ok xs := by
  rw [compS_map (fun x => x) xs h, List.map_id']
theorem comp_nis {β : Type} {f : Int → Res β} (F : Nat → β) (n : Nat) (h : n ≤ 16777216) (hf : ∀ k : Nat, k < n → f (k : Int) = .ok (F k)) : compS (fun _ => .ok true) f (nis n) = .ok ((List.range n).map F) := by
  rw [compS_allm (fun i => F i.toNat) (nis n) (by rw [nis_len]; exact h) fun x hx => by
    obtain ⟨k, hk, rfl⟩ := nis_mem hx
    rw [hf k hk, Int.toNat_natCast]]
  congr 1
  unfold nis
  rw [List.map_map]
  congr 1
theorem if_ok {α : Type} (c : Bool) (a b : α) : (if c = true then Res.ok a else Res.ok b) = .ok (if c = true then a else b) := by cases c <;> rfl
end Cr
namespace Cr
open PySem L2
theorem stp {α γ : Type} {r : Res α} {a : α} {k : α → Res γ} {y : Res γ} (h : r = .ok a) (h2 : k a = y) : (r >>= k) = y := by rw [h]; exact h2
end Cr
/-! layouts -/
namespace Cr
open PySem L2
abbrev Rw := T3 Str Int Int
def isBr (r : Rw) : Bool := decide (r.a = ("brake" : Str))
def kindB (k : Str) : Bool := decide (k ∈ [("coast" : Str), ("lift" : Str), ("brake" : Str)])
def okRow (r : Rw) : Prop := kindB r.a = true ∧ (1 ≤ r.b ∧ r.b ≤ 500) ∧ (-100 ≤ r.c ∧ r.c ≤ 100)
instance (r : Rw) : Decidable (okRow r) := by unfold okRow; infer_instance
def sumLn (rows : List Rw) : Int := (rows.map (·.b)).sum
def sumH (rows : List Rw) : Int := (rows.map fun r => r.b * r.c).sum
def lastBr (rows : List Rw) : Prop := ∃ pre r, rows = pre ++ [r] ∧ r.a = ("brake" : Str)
structure Good (rows : List Rw) : Prop where
  row : ∀ r ∈ rows, okRow r
  len : sumLn rows ≤ 4000
  shut : sumH rows = 0
  last : lastBr rows
  brk : 2 ≤ (rows.filter isBr).length ∧ (rows.filter isBr).length ≤ 12
theorem sumLn_cons (r : Rw) (rs : List Rw) : sumLn (r :: rs) = r.b + sumLn rs := by unfold sumLn; rw [List.map_cons, List.sum_cons]
theorem sumH_cons (r : Rw) (rs : List Rw) : sumH (r :: rs) = r.b * r.c + sumH rs := by unfold sumH; rw [List.map_cons, List.sum_cons]
theorem sumLn_append (a b : List Rw) : sumLn (a ++ b) = sumLn a + sumLn b := by unfold sumLn; rw [List.map_append, List.sum_append]
theorem sumH_append (a b : List Rw) : sumH (a ++ b) = sumH a + sumH b := by unfold sumH; rw [List.map_append, List.sum_append]
theorem sumLn_one (r : Rw) : sumLn [r] = r.b := by simp [sumLn]
theorem sumH_one (r : Rw) : sumH [r] = r.b * r.c := by simp [sumH]
theorem sumLn_nn : ∀ rs : List Rw, (∀ r ∈ rs, okRow r) → (rs.length : Int) ≤ sumLn rs
  | [], _ => Int.le_refl 0
  | r :: rs, h => by
    have i := sumLn_nn rs fun x hx => h x (List.mem_cons_of_mem _ hx)
    have o := (h r (List.mem_cons_self ..)).2.1
    rw [sumLn_cons, List.length_cons]
    omega
theorem Good.size {rows : List Rw} (g : Good rows) : rows.length ≤ 4000 := by
  have := sumLn_nn rows g.row
  have := g.len
  omega
theorem snoc_cases {α : Type} (xs : List α) : xs = [] ∨ ∃ pre x, xs = pre ++ [x] := by
  rcases List.eq_nil_or_concat xs with h | ⟨pre, x, h⟩
  · exact .inl h
  · exact .inr ⟨pre, x, by rw [h, List.concat_eq_append]⟩
theorem lastBr_snoc (pre : List Rw) (r : Rw) : lastBr (pre ++ [r]) ↔ r.a = ("brake" : Str) := by
  constructor
  · rintro ⟨p, q, e, h⟩
    have := List.append_inj' e rfl
    have e2 : r = q := by simpa using this.2
    rw [e2]; exact h
  · exact fun h => ⟨pre, r, rfl, h⟩
theorem lastBr_nil : ¬ lastBr [] := fun ⟨p, r, e, _⟩ => by simp at e
theorem fold_chk {α : Type} (P : α → Prop) [DecidablePred P] (x : Exc) : ∀ (xs : List α) (f : α → Unit → Res Unit), (∀ y, f y () = if P y then .ok () else .err x) → ((∀ y ∈ xs, P y) → foldT f xs () = .ok ()) ∧ ((¬ ∀ y ∈ xs, P y) → foldT f xs () = .err x)
  | [], f, h => ⟨fun _ => rfl, fun n => absurd (fun y hy => by cases hy) n⟩
  | y :: ys, f, h => by
    obtain ⟨i1, i2⟩ := fold_chk P x ys f h
    rw [foldT_cons, h y]
    by_cases hy : P y
    · rw [if_pos hy]
      refine ⟨fun a => i1 fun z hz => a z (List.mem_cons_of_mem _ hz), fun n => i2 fun a => n fun z hz => ?_⟩
      rcases List.mem_cons.mp hz with rfl | hz
      · exact hy
      · exact a z hz
    · rw [if_neg hy]
      exact ⟨fun a => absurd (a y (List.mem_cons_self ..)) hy, fun _ => rfl⟩
theorem check_ok (rows : List Rw) (hz : rows.length ≤ 16777216) : (Good rows → t_check_segments rows = .ok ()) ∧ (¬ Good rows → t_check_segments rows = .err (.own 2)) := by
  unfold t_check_segments
  have hc := fold_chk okRow (.own 2) rows (fun (x89 : (T3 Str Int Int)) (s75 : Unit) => (if ((!decide (x89.a ∈ (TL.mk [("coast" : Str), ("lift" : Str), ("brake" : Str)] : (TL Str)).l)) || ((!((decide ((1 : Int) ≤ x89.b)) && (decide (x89.b ≤ (500 : Int))))) || (!((decide ((-100 : Int) ≤ x89.c)) && (decide (x89.c ≤ (100 : Int))))))) = true then (.err (.own 2)) else (.ok ()))) fun y => by
    unfold okRow kindB
    by_cases h1 : y.a ∈ [("coast" : Str), ("lift" : Str), ("brake" : Str)]
    · by_cases h2 : (1 ≤ y.b ∧ y.b ≤ 500) ∧ (-100 ≤ y.c ∧ y.c ≤ 100)
      · simp [h1, h2]
      · simp only [h1, decide_true, true_and]
        rw [if_neg h2, if_pos]
        simp only [Bool.not_true, Bool.false_or, Bool.or_eq_true, Bool.not_eq_true', Bool.and_eq_false_iff, decide_eq_false_iff_not]
        omega
    · simp [h1]
  by_cases hr : ∀ r ∈ rows, okRow r
  · rw [hc.1 hr, bnd_ok, compS_map (fun x : Rw => x.b) rows hz, bnd_ok,
      compS_allm (fun x : Rw => x.b * x.c) rows hz (fun x hx => by
        have := (hr x hx).2.1
        rw [mul_l _ _ (by omega)]; rfl), bnd_ok, compS_pure (fun x97 : Rw => decide (x97.a = ("brake" : Str))) (fun x97 => x97.a) rows hz]
    have e1 : (rows.map fun x : Rw => x.b).sum = sumLn rows := rfl
    have e2 : (rows.map fun x : Rw => x.b * x.c).sum = sumH rows := rfl
    have e3 : (List.filter (fun x97 : Rw => decide (x97.a = ("brake" : Str))) rows) = rows.filter isBr := rfl
    rw [e1, e2, e3]
    rcases snoc_cases rows with h0 | ⟨pre, r, h0⟩
    · have hn : ¬ Good rows := fun g => by have := g.last; rw [h0] at this; exact lastBr_nil this
      refine ⟨fun g => absurd g hn, fun _ => ?_⟩
      have hl : decide (((rows.length : Nat) : Int) = 0) = true := by rw [h0]; rfl
      rw [hl, orR_t, bnd_ok, if_pos rfl]
      split
      · rfl
      · split <;> rfl
    · have hl : decide (((rows.length : Nat) : Int) = 0) = false := decide_eq_false (by rw [h0, List.length_append, List.length_singleton]; omega)
      have hi : idxT rows (-1) = .ok r := by rw [h0]; exact idx_last pre r
      rw [hl, orR_f, hi, bnd_ok, bnd_ok, bnd_ok, List.length_map]
      constructor
      · intro g
        have l := g.last
        rw [h0, lastBr_snoc] at l
        have := g.len
        have := g.shut
        have := g.brk
        rw [if_neg (by rw [decide_eq_true_eq]; omega), if_neg (by simp [g.shut]), if_neg (by simp [l]), if_neg]
        simp only [Bool.not_eq_true', Bool.and_eq_false_iff, decide_eq_false_iff_not]
        omega
      · intro g
        by_cases a1 : 4000 < sumLn rows
        · rw [if_pos (by rw [decide_eq_true_eq]; omega)]
        · rw [if_neg (by rw [decide_eq_true_eq]; omega)]
          by_cases a2 : sumH rows = 0
          · rw [if_neg (by simp [a2])]
            by_cases a3 : r.a = ("brake" : Str)
            · rw [if_neg (by simp [a3]), if_pos]
              simp only [Bool.not_eq_true', Bool.and_eq_false_iff, decide_eq_false_iff_not]
              by_cases a4 : 2 ≤ (rows.filter isBr).length ∧ (rows.filter isBr).length ≤ 12
              · refine absurd ⟨hr, by omega, a2, ?_, a4⟩ g
                rw [h0, lastBr_snoc]; exact a3
              · omega
            · rw [if_pos (by simp [a3])]
          · rw [if_pos (by simp [a2])]
  · rw [hc.2 hr, bnd_err]
    exact ⟨fun g => absurd g.row hr, fun _ => rfl⟩
/-! what a layout holds -/
abbrev Mt := T3 Str Int Int
def flat : Int → List Rw → List Mt
  | _, [] => []
  | b, r :: rs => List.replicate r.b.toNat (⟨r.a, r.c, b⟩ : Mt) ++ flat (b + if isBr r then 1 else 0) rs
def hts : Int → List Mt → List Int
  | _, [] => []
  | h, m :: ms => (h + m.b) :: hts (h + m.b) ms
def begs : Int → List Rw → List Int
  | _, [] => []
  | n, r :: rs => if isBr r then (n + r.b) :: begs (n + r.b) rs else begs (n + r.b) rs
def brks : Int → List Rw → List Int
  | _, [] => []
  | n, r :: rs => if isBr r then n :: brks (n + r.b) rs else brks (n + r.b) rs
def hEnd : Int → List Mt → Int
  | h, [] => h
  | h, m :: ms => hEnd (h + m.b) ms
theorem hts_append : ∀ (a b : List Mt) (h : Int), hts h (a ++ b) = hts h a ++ hts (hEnd h a) b
  | [], b, h => rfl
  | m :: a, b, h => by
    show (h + m.b) :: hts (h + m.b) (a ++ b) = _
    rw [hts_append a b (h + m.b)]
    rfl
theorem hts_len : ∀ (a : List Mt) (h : Int), (hts h a).length = a.length
  | [], h => rfl
  | m :: a, h => by
    show (hts (h + m.b) a).length + 1 = _
    rw [hts_len a]
    rfl
theorem hts_last : ∀ (a : List Mt) (pre : List Int) (h : Int), ∃ pre' : List Int, pre'.length = pre.length + a.length ∧ pre ++ [h] ++ hts h a = pre' ++ [hEnd h a]
  | [], pre, h => ⟨pre, rfl, by simp [hts, hEnd]⟩
  | m :: a, pre, h => by
    obtain ⟨p, e1, e2⟩ := hts_last a (pre ++ [h]) (h + m.b)
    refine ⟨p, by rw [e1]; simp; omega, ?_⟩
    show pre ++ [h] ++ ((h + m.b) :: hts (h + m.b) a) = p ++ [hEnd (h + m.b) a]
    rw [← e2]
    simp
def layO (rows : List Rw) : C20 := ⟨⟨rows⟩, flat 0 rows, 0 :: begs 0 rows, brks 0 rows, 0 :: hts 0 (flat 0 rows)⟩
theorem lay_in (x : Rw) (B : Int) (f : Int → List Int × List Mt → Res (List Int × List Mt))
    (hf : ∀ i s, f i s = (appT s.2 (⟨x.a, x.c, B⟩ : Mt) >>= fun m => (idxT s.1 (-1 : Int)) >>= fun v => appT s.1 (v + x.c) >>= fun h => .ok (h, m))) :
    ∀ (n : Nat) (xs : List Int) (pre : List Int) (h : Int) (M : List Mt), xs.length = n → M.length + n < 16777216 → pre.length + n < 16777215 →
    foldT f xs (pre ++ [h], M) = .ok (pre ++ [h] ++ hts h (List.replicate n (⟨x.a, x.c, B⟩ : Mt)), M ++ List.replicate n (⟨x.a, x.c, B⟩ : Mt))
  | 0, xs, pre, h, M, hn, _, _ => by
    have : xs = [] := List.length_eq_zero_iff.mp hn
    subst this
    simp [foldT_nil, hts]
  | n + 1, [], pre, h, M, hn, _, _ => by simp at hn
  | n + 1, y :: ys, pre, h, M, hn, h1, h2 => by
    have hn : ys.length = n := by simpa using hn
    rw [foldT_cons, hf]
    have e := lay_in x B f hf n ys (pre ++ [h]) (h + x.c) (M ++ [⟨x.a, x.c, B⟩]) hn (by simp; omega) (by simp; omega)
    rw [app_ok _ _ (by show M.length < _; omega), bnd_ok]
    show (idxT (pre ++ [h]) (-1) >>= _) >>= _ = _
    rw [idx_last, bnd_ok, app_ok _ _ (by simp; omega), bnd_ok, bnd_ok, e]
    have r1 : List.replicate (n + 1) (⟨x.a, x.c, B⟩ : Mt) = ⟨x.a, x.c, B⟩ :: List.replicate n (⟨x.a, x.c, B⟩ : Mt) := rfl
    rw [r1]
    simp [hts]
theorem isBr_dec (r : Rw) : decide (r.a = ("brake" : Str)) = isBr r := rfl
theorem lay_fold (F : Rw → List Int × List Int × List Int × List Mt → Res (List Int × List Int × List Int × List Mt))
    (hF : ∀ x s, F x s = ((if (decide (x.a = ("brake" : Str))) = true then (appT s.2.1 (s.2.2.2.length : Int) >>= fun b => .ok b) else (.ok s.2.1) : Res (List Int)) >>= fun s1 =>
      ((rngT x.b) >>= fun v => (foldT (fun (i : Int) (t : List Int × List Mt) => appT t.2 (⟨x.a, x.c, (s.1.length : Int) - 1⟩ : Mt) >>= fun m => (idxT t.1 (-1 : Int)) >>= fun v => appT t.1 (v + x.c) >>= fun h => .ok (h, m)) v (s.2.2.1, s.2.2.2)) >>= fun t =>
      (if (decide (x.a = ("brake" : Str))) = true then (appT s.1 (t.2.length : Int) >>= fun b => .ok (b, s1, t.1, t.2)) else .ok (s.1, s1, t.1, t.2))))) :
    ∀ (rows : List Rw) (B K pre : List Int) (h : Int) (M : List Mt), (∀ r ∈ rows, 1 ≤ r.b ∧ r.b ≤ 500) → (M.length : Int) + sumLn rows < 10000 → (B.length : Int) + sumLn rows < 10000 → (K.length : Int) + sumLn rows < 10000 → pre.length = M.length →
    foldT F rows (B, K, pre ++ [h], M) = .ok (B ++ begs M.length rows, K ++ brks M.length rows, pre ++ [h] ++ hts h (flat ((B.length : Int) - 1) rows), M ++ flat ((B.length : Int) - 1) rows)
  | [], B, K, pre, h, M, _, _, _, _, _ => by simp [foldT_nil, flat, begs, brks, hts]
  | r :: rows, B, K, pre, h, M, hr, b1, b2, b3, b4 => by
    have hl := hr r (List.mem_cons_self ..)
    have hp : ∀ rs : List Rw, (∀ r ∈ rs, 1 ≤ r.b ∧ r.b ≤ 500) → 0 ≤ sumLn rs := by
      intro rs
      induction rs with
      | nil => intro _; exact Int.le_refl 0
      | cons x xs ih =>
        intro h
        have := ih fun r hr => h r (List.mem_cons_of_mem _ hr)
        have := h x (List.mem_cons_self ..)
        rw [sumLn_cons]
        omega
    have hpos := hp rows fun x hx => hr x (List.mem_cons_of_mem _ hx)
    rw [sumLn_cons] at b1 b2 b3
    have hK : K.length < 16777216 := by omega
    have ek : ((if (decide (r.a = ("brake" : Str))) = true then (appT K (M.length : Int) >>= fun b => .ok b) else (.ok K) : Res (List Int))) = .ok (K ++ if isBr r then [(M.length : Int)] else []) := by
      rw [isBr_dec]
      by_cases hb : isBr r = true
      · rw [if_pos hb, if_pos hb, app_ok _ _ hK]; rfl
      · rw [if_neg hb, if_neg hb, List.append_nil]
    have ei := lay_in r ((B.length : Int) - 1) _ (fun _ _ => rfl) r.b.toNat (nis r.b.toNat) pre h M (nis_len _) (by omega) (by omega)
    have hM : ((M ++ List.replicate r.b.toNat (⟨r.a, r.c, (B.length : Int) - 1⟩ : Mt)).length : Int) = M.length + r.b := by simp; omega
    have hB : B.length < 16777216 := by omega
    rw [foldT_cons, hF]
    show (((if (decide (r.a = ("brake" : Str))) = true then (appT K (M.length : Int) >>= fun b => .ok b) else (.ok K) : Res (List Int)) >>= fun s1 => _) >>= _) = _
    rw [ek, bnd_ok, rng_ok _ (by omega) (by omega), bnd_ok]
    show ((foldT _ (nis r.b.toNat) (pre ++ [h], M) >>= fun t => _) >>= _) = _
    rw [ei, bnd_ok]
    show ((if (decide (r.a = ("brake" : Str))) = true then (appT B (((M ++ List.replicate r.b.toNat (⟨r.a, r.c, (B.length : Int) - 1⟩ : Mt)).length : Nat) : Int) >>= fun b => _) else _) >>= _) = _
    obtain ⟨pre', hp', ep⟩ := hts_last (List.replicate r.b.toNat (⟨r.a, r.c, (B.length : Int) - 1⟩ : Mt)) pre h
    have ef : flat ((B.length : Int) - 1) (r :: rows) = List.replicate r.b.toNat (⟨r.a, r.c, (B.length : Int) - 1⟩ : Mt) ++ flat ((B.length : Int) - 1 + if isBr r then 1 else 0) rows := rfl
    have eg : begs M.length (r :: rows) = if isBr r then ((M.length : Int) + r.b) :: begs (M.length + r.b) rows else begs (M.length + r.b) rows := rfl
    have eh : brks M.length (r :: rows) = if isBr r then (M.length : Int) :: brks (M.length + r.b) rows else brks (M.length + r.b) rows := rfl
    rw [ef, eg, eh, hts_append, ← List.append_assoc, ← List.append_assoc, isBr_dec, ep, hM]
    have hr2 := fun x hx => hr x (List.mem_cons_of_mem _ hx)
    by_cases hb : isBr r = true
    · rw [if_pos hb, if_pos hb, if_pos hb, if_pos hb, if_pos hb, app_ok _ _ hB, bnd_ok, bnd_ok]
      rw [lay_fold F hF rows (B ++ [(M.length : Int) + r.b]) (K ++ [(M.length : Int)]) pre' _ (M ++ List.replicate r.b.toNat (⟨r.a, r.c, (B.length : Int) - 1⟩ : Mt)) hr2 (by rw [hM]; omega) (by rw [List.length_append, List.length_singleton]; omega) (by rw [List.length_append, List.length_singleton]; omega) (by rw [hp']; simp; omega), hM]
      have eo : (((B ++ [(M.length : Int) + r.b]).length : Nat) : Int) - 1 = (B.length : Int) - 1 + 1 := by rw [List.length_append, List.length_singleton]; omega
      rw [eo]
      simp
    · rw [if_neg hb, if_neg hb, if_neg hb, if_neg hb, if_neg hb, List.append_nil, bnd_ok]
      rw [lay_fold F hF rows B K pre' _ (M ++ List.replicate r.b.toNat (⟨r.a, r.c, (B.length : Int) - 1⟩ : Mt)) hr2 (by rw [hM]; omega) (by omega) (by omega) (by rw [hp']; simp; omega), hM, Int.add_zero]
theorem layout_ok (rows : List Rw) (hz : rows.length ≤ 16777216) : (Good rows → t_layout_init rows = .ok (layO rows)) ∧ (¬ Good rows → t_layout_init rows = .err (.own 2)) := by
  obtain ⟨c1, c2⟩ := check_ok rows hz
  unfold t_layout_init
  constructor
  · intro g
    rw [c1 g, bnd_ok]
    have hsum := g.len
    have e := lay_fold _ (fun _ _ => rfl) rows [0] [] [] 0 [] (fun r hr => (g.row r hr).2.1) (by simp; omega) (by simp; omega) (by simp; omega) rfl
    have e2 := congrArg (fun r => r >>= fun s : List Int × List Int × List Int × List Mt => Res.ok (⟨(TL.mk rows), s.2.2.2, s.1, s.2.1, s.2.2.1⟩ : C20)) e
    exact e2
  · intro g
    rw [c2 g]; rfl
end Cr
/-! the metres of rows -/
namespace Cr
open PySem L2
theorem flat_len : ∀ (rows : List Rw) (b : Int), (∀ r ∈ rows, 0 ≤ r.b) → ((flat b rows).length : Int) = sumLn rows
  | [], b, _ => rfl
  | r :: rs, b, h => by
    have e : flat b (r :: rs) = List.replicate r.b.toNat (⟨r.a, r.c, b⟩ : Mt) ++ flat (b + if isBr r then 1 else 0) rs := rfl
    have i := flat_len rs (b + if isBr r then 1 else 0) fun x hx => h x (List.mem_cons_of_mem _ hx)
    have := h r (List.mem_cons_self ..)
    rw [e, List.length_append, List.length_replicate, sumLn_cons]
    omega
theorem Good.nn {rows : List Rw} (g : Good rows) : ∀ r ∈ rows, 0 ≤ r.b := fun r hr => by have := (g.row r hr).2.1; omega
theorem Good.flen {rows : List Rw} (g : Good rows) : ((flat 0 rows).length : Int) = sumLn rows := flat_len rows 0 g.nn
theorem Good.pos {rows : List Rw} (g : Good rows) : 0 < (flat 0 rows).length := by
  have h := g.flen
  obtain ⟨p, r, e, _⟩ := g.last
  have h2 := sumLn_nn rows g.row
  have : 0 < rows.length := by rw [e]; simp
  omega
theorem Good.lt {rows : List Rw} (g : Good rows) : (flat 0 rows).length ≤ 4000 := by
  have h := g.flen
  have := g.len
  omega
theorem mets_ok (rows : List Rw) (hr : ∀ r ∈ rows, 0 ≤ r.b) (hl : sumLn rows < 10000000) : t_law_metres rows = .ok (flat 0 rows) := by
  have key : ∀ (F : Rw → List Mt × Int → Res (List Mt × Int)), (∀ x s, F x s = ((rngT x.b) >>= fun v => (foldT (fun (_ : Int) (t : List Mt) => appT t (⟨x.a, x.c, s.2⟩ : Mt) >>= fun f => .ok f) v s.1 >>= fun t => .ok (t, s.2 + (if (decide (x.a = ("brake" : Str))) = true then (1 : Int) else 0))))) →
      ∀ (rows : List Rw) (M : List Mt) (b : Int), (∀ r ∈ rows, 0 ≤ r.b) → (M.length : Int) + sumLn rows < 10000000 → ∃ b', foldT F rows (M, b) = .ok (M ++ flat b rows, b') := by
    intro F hF rows
    induction rows with
    | nil => intro M b _ _; exact ⟨b, by simp [foldT_nil, flat]⟩
    | cons r rs ih =>
      intro M b h1 h2
      have hr := h1 r (List.mem_cons_self ..)
      have h3 : ∀ x ∈ rs, 0 ≤ x.b := fun x hx => h1 x (List.mem_cons_of_mem _ hx)
      have h4 := flat_len rs b h3
      rw [sumLn_cons] at h2
      have inner : ∀ (n : Nat) (xs : List Int) (M : List Mt), xs.length = n → M.length + n < 16777216 → foldT (fun (_ : Int) (t : List Mt) => appT t (⟨r.a, r.c, b⟩ : Mt) >>= fun f => .ok f) xs M = .ok (M ++ List.replicate n (⟨r.a, r.c, b⟩ : Mt)) := by
        intro n
        induction n with
        | zero =>
          intro xs M hx _
          have : xs = [] := List.length_eq_zero_iff.mp hx
          subst this
          simp [foldT_nil]
        | succ n ih =>
          intro xs M hx hM
          cases xs with
          | nil => simp at hx
          | cons y ys =>
            rw [foldT_cons, app_ok _ _ (by omega), bnd_ok, bnd_ok, ih ys _ (by simpa using hx) (by simp; omega)]
            simp [List.replicate_succ]
      rw [foldT_cons, hF, rng_ok _ (by omega) hr, bnd_ok, inner r.b.toNat _ M (nis_len _) (by omega), bnd_ok, bnd_ok]
      obtain ⟨b', e⟩ := ih (M ++ List.replicate r.b.toNat (⟨r.a, r.c, b⟩ : Mt)) (b + (if (decide (r.a = ("brake" : Str))) = true then (1 : Int) else 0)) h3 (by simp; omega)
      refine ⟨b', ?_⟩
      rw [e]
      have ef : flat b (r :: rs) = List.replicate r.b.toNat (⟨r.a, r.c, b⟩ : Mt) ++ flat (b + if isBr r then 1 else 0) rs := rfl
      rw [ef, List.append_assoc]
      rfl
  unfold t_law_metres
  obtain ⟨b', e⟩ := key _ (fun _ _ => rfl) rows [] 0 hr (by simp; omega)
  have e2 := congrArg (fun r => r >>= fun s : List Mt × Int => Res.ok s.1) e
  exact e2
end Cr
/-! a layout's metres by blocks -/
namespace Cr
open PySem L2
abbrev Bk := List Mt × List Mt
def blkP : Int → List Mt → List Rw → List Bk
  | _, _, [] => []
  | b, cur, r :: rs => if isBr r = true then (cur, List.replicate r.b.toNat (⟨r.a, r.c, b⟩ : Mt)) :: blkP (b + 1) [] rs else blkP b (cur ++ List.replicate r.b.toNat (⟨r.a, r.c, b⟩ : Mt)) rs
def whole (P : List Bk) : List Mt := P.flatMap fun x => x.1 ++ x.2
def ends : Int → List Bk → List Int
  | _, [] => []
  | n, x :: P => (n + x.1.length + x.2.length) :: ends (n + x.1.length + x.2.length) P
def brs : Int → List Bk → List Int
  | _, [] => []
  | n, x :: P => (n + x.1.length) :: brs (n + x.1.length + x.2.length) P
structure BkOk (i : Int) (x : Bk) : Prop where
  p : ∀ m ∈ x.1, m.c = i ∧ m.a ≠ ("brake" : Str)
  q : ∀ m ∈ x.2, m.c = i ∧ m.a = ("brake" : Str)
  ne : x.2 ≠ []
theorem blk_spec : ∀ (rows : List Rw) (b : Int) (cur : List Mt) (n : Int), (∀ r ∈ rows, 1 ≤ r.b) → (lastBr rows ∨ (rows = [] ∧ cur = [])) → (∀ m ∈ cur, m.c = b ∧ m.a ≠ ("brake" : Str)) →
    cur ++ flat b rows = whole (blkP b cur rows) ∧ begs (n + cur.length) rows = ends n (blkP b cur rows) ∧ brks (n + cur.length) rows = brs n (blkP b cur rows) ∧ (blkP b cur rows).length = (rows.filter isBr).length ∧
    ∀ (i : Nat) x, (blkP b cur rows)[i]? = some x → BkOk (b + i) x
  | [], b, cur, n, _, hl, _ => by
    have hc : cur = [] := by
      rcases hl with h | h
      · exact absurd h lastBr_nil
      · exact h.2
    subst hc
    exact ⟨rfl, rfl, rfl, rfl, fun i x h => by simp [blkP] at h⟩
  | r :: rs, b, cur, n, hr, hl, hc => by
    have h1 := hr r (List.mem_cons_self ..)
    have hr2 : ∀ x ∈ rs, 1 ≤ x.b := fun x hx => hr x (List.mem_cons_of_mem _ hx)
    have hl1 : lastBr (r :: rs) := by
      rcases hl with h | h
      · exact h
      · cases h.1
    have hl2 : lastBr rs ∨ (rs = [] ∧ isBr r = true) := by
      obtain ⟨p, q, e, hq⟩ := hl1
      cases p with
      | nil =>
        have e : r :: rs = [q] := e
        cases e
        exact .inr ⟨rfl, decide_eq_true hq⟩
      | cons y p =>
        have e : r :: rs = y :: (p ++ [q]) := e
        injection e with e1 e2
        exact .inl ⟨p, q, e2, hq⟩
    have hseg : ((List.replicate r.b.toNat (⟨r.a, r.c, b⟩ : Mt)).length : Int) = r.b := by simp; omega
    by_cases hb : isBr r = true
    · have eP : blkP b cur (r :: rs) = (cur, List.replicate r.b.toNat (⟨r.a, r.c, b⟩ : Mt)) :: blkP (b + 1) [] rs := if_pos hb
      have ef : flat b (r :: rs) = List.replicate r.b.toNat (⟨r.a, r.c, b⟩ : Mt) ++ flat (b + 1) rs := by
        show _ ++ flat (b + if isBr r then 1 else 0) rs = _
        rw [if_pos hb]
      obtain ⟨i1, i2, i3, i4, i5⟩ := blk_spec rs (b + 1) [] (n + cur.length + r.b) hr2 (hl2.imp id fun h => ⟨h.1, rfl⟩) (fun m hm => by cases hm)
      have e0 : n + (cur.length : Int) + r.b + (([] : List Mt).length : Int) = n + cur.length + r.b := by simp
      rw [e0] at i2 i3
      refine ⟨?_, ?_, ?_, ?_, ?_⟩
      · rw [eP, ef]
        show _ = (cur ++ List.replicate r.b.toNat (⟨r.a, r.c, b⟩ : Mt)) ++ whole (blkP (b + 1) [] rs)
        rw [← i1, List.append_assoc]; rfl
      · rw [eP]
        show (if isBr r then (n + cur.length + r.b) :: begs (n + cur.length + r.b) rs else begs (n + cur.length + r.b) rs) = (n + cur.length + _) :: ends (n + cur.length + _) _
        rw [if_pos hb, hseg, i2]
      · rw [eP]
        show (if isBr r then (n + cur.length) :: brks (n + cur.length + r.b) rs else brks (n + cur.length + r.b) rs) = (n + cur.length) :: brs (n + cur.length + _) _
        rw [if_pos hb, hseg, i3]
      · rw [eP, List.length_cons, i4, List.filter_cons, if_pos hb, List.length_cons]
      · intro i x hx
        rw [eP] at hx
        cases i with
        | zero =>
          have hx : some _ = some x := hx
          cases hx
          refine ⟨fun m hm => by simpa using hc m hm, fun m hm => ?_, ?_⟩
          · obtain rfl := List.eq_of_mem_replicate hm
            exact ⟨by simp, of_decide_eq_true hb⟩
          · intro z
            have z : List.replicate r.b.toNat (⟨r.a, r.c, b⟩ : Mt) = [] := z
            rw [z] at hseg
            simp at hseg
            omega
        | succ i =>
          have := i5 i x hx
          have e : b + 1 + (i : Int) = b + ((i + 1 : Nat) : Int) := by omega
          rw [e] at this
          exact this
    · have eP : blkP b cur (r :: rs) = blkP b (cur ++ List.replicate r.b.toNat (⟨r.a, r.c, b⟩ : Mt)) rs := if_neg hb
      have ef : flat b (r :: rs) = List.replicate r.b.toNat (⟨r.a, r.c, b⟩ : Mt) ++ flat b rs := by
        show _ ++ flat (b + if isBr r then 1 else 0) rs = _
        rw [if_neg hb, Int.add_zero]
      obtain ⟨i1, i2, i3, i4, i5⟩ := blk_spec rs b (cur ++ List.replicate r.b.toNat (⟨r.a, r.c, b⟩ : Mt)) n hr2 (hl2.elim .inl fun h => absurd h.2 hb) (fun m hm => by
        rcases List.mem_append.mp hm with h | h
        · exact hc m h
        · obtain rfl := List.eq_of_mem_replicate h
          exact ⟨rfl, fun z => hb (decide_eq_true z)⟩)
      have e0 : n + ((cur ++ List.replicate r.b.toNat (⟨r.a, r.c, b⟩ : Mt)).length : Int) = n + cur.length + r.b := by rw [List.length_append]; omega
      rw [e0] at i2 i3
      refine ⟨?_, ?_, ?_, ?_, ?_⟩
      · rw [eP, ef, ← i1, List.append_assoc]
      · rw [eP, ← i2]
        show (if isBr r then (n + cur.length + r.b) :: begs (n + cur.length + r.b) rs else begs (n + cur.length + r.b) rs) = _
        rw [if_neg hb]
      · rw [eP, ← i3]
        show (if isBr r then (n + cur.length) :: brks (n + cur.length + r.b) rs else brks (n + cur.length + r.b) rs) = _
        rw [if_neg hb]
      · rw [eP, i4, List.filter_cons, if_neg hb]
      · rw [eP]; exact i5
/-- the blocks of rows -/
def bks (rows : List Rw) : List Bk := blkP 0 [] rows
theorem Good.bk {rows : List Rw} (g : Good rows) : flat 0 rows = whole (bks rows) ∧ begs 0 rows = ends 0 (bks rows) ∧ brks 0 rows = brs 0 (bks rows) ∧ (2 ≤ (bks rows).length ∧ (bks rows).length ≤ 12) ∧ ∀ (i : Nat) x, (bks rows)[i]? = some x → BkOk i x := by
  obtain ⟨h1, h2, h3, h4, h5⟩ := blk_spec rows 0 [] 0 (fun r hr => (g.row r hr).2.1.1) (.inl g.last) (fun m hm => by cases hm)
  refine ⟨h1, h2, h3, ?_, fun i x hx => by simpa using h5 i x hx⟩
  have := g.brk
  show 2 ≤ (blkP 0 [] rows).length ∧ _
  rw [h4]; exact ⟨this.1, by show (blkP 0 [] rows).length ≤ 12; rw [h4]; exact this.2⟩
theorem whole_append (P Q : List Bk) : whole (P ++ Q) = whole P ++ whole Q := by unfold whole; rw [List.flatMap_append]
theorem whole_cons (x : Bk) (P : List Bk) : whole (x :: P) = x.1 ++ x.2 ++ whole P := rfl
theorem ends_get : ∀ (P : List Bk) (n : Int) (i : Nat) x, P[i]? = some x → (n :: ends n P)[i]? = some (n + (whole (P.take i)).length) ∧ (n :: ends n P)[i + 1]? = some (n + (whole (P.take i)).length + x.1.length + x.2.length) ∧ (brs n P)[i]? = some (n + (whole (P.take i)).length + x.1.length)
  | [], n, i, x, h => by simp at h
  | y :: P, n, 0, x, h => by
    have h : some y = some x := h
    cases h
    refine ⟨?_, ?_, ?_⟩
    · show some n = some (n + 0); simp
    · show some (n + y.1.length + y.2.length) = some (n + 0 + y.1.length + y.2.length); simp
    · show some (n + y.1.length) = some (n + 0 + y.1.length); simp
  | y :: P, n, i + 1, x, h => by
    obtain ⟨h1, h2, h3⟩ := ends_get P (n + y.1.length + y.2.length) i x h
    have e : n + (y.1.length : Int) + (y.2.length : Int) + ((whole (P.take i)).length : Int) = n + ((whole ((y :: P).take (i + 1))).length : Int) := by
      rw [List.take_succ_cons, whole_cons, List.length_append, List.length_append]; omega
    rw [e] at h1 h2 h3
    exact ⟨h1, h2, h3⟩
/-- a block within the whole -/
structure At (rows : List Rw) (i : Nat) (A : List Mt) (x : Bk) (Z : List Mt) : Prop where
  eq : flat 0 rows = A ++ (x.1 ++ x.2) ++ Z
  beg : (layO rows).begins[i]? = some (A.length : Int)
  fin : (layO rows).begins[i + 1]? = some ((A.length : Int) + x.1.length + x.2.length)
  brk : (layO rows).brakes[i]? = some ((A.length : Int) + x.1.length)
  ok : BkOk i x
  bef : ∀ m ∈ A, m.c < i
  aft : ∀ m ∈ Z, (i : Int) < m.c
  pre : A = whole ((bks rows).take i)
  suf : Z = whole ((bks rows).drop (i + 1))
  get : (bks rows)[i]? = some x
theorem mem_whole {P : List Bk} {m : Mt} (h : m ∈ whole P) : ∃ (j : Nat) (x : Bk), P[j]? = some x ∧ m ∈ x.1 ++ x.2 := by
  unfold whole at h
  obtain ⟨x, hx, hm⟩ := List.mem_flatMap.mp h
  obtain ⟨j, hj⟩ := List.getElem?_of_mem hx
  exact ⟨j, x, hj, hm⟩
theorem BkOk.c {i : Int} {x : Bk} (h : BkOk i x) {m : Mt} (hm : m ∈ x.1 ++ x.2) : m.c = i := by
  rcases List.mem_append.mp hm with h' | h'
  · exact (h.p m h').1
  · exact (h.q m h').1
theorem Good.at {rows : List Rw} (g : Good rows) (i : Nat) (hi : i < (bks rows).length) : ∃ A x Z, At rows i A x Z := by
  obtain ⟨h1, h2, h3, h4, h5⟩ := g.bk
  have hx : (bks rows)[i]? = some (bks rows)[i] := List.getElem?_eq_getElem hi
  obtain ⟨e1, e2, e3⟩ := ends_get (bks rows) 0 i _ hx
  have es : bks rows = (bks rows).take i ++ (bks rows)[i] :: (bks rows).drop (i + 1) := by
    rw [← List.drop_eq_getElem_cons hi, List.take_append_drop]
  refine ⟨whole ((bks rows).take i), (bks rows)[i], whole ((bks rows).drop (i + 1)), ⟨?_, ?_, ?_, ?_, h5 i _ hx, fun m hm => ?_, fun m hm => ?_, rfl, rfl, hx⟩⟩
  · rw [h1]
    conv => lhs; rw [es]
    rw [whole_append, whole_cons]
    simp only [List.append_assoc]
  · show (0 :: begs 0 rows)[i]? = _
    rw [h2, e1]; simp
  · show (0 :: begs 0 rows)[i + 1]? = _
    rw [h2, e2]; simp
  · show (brks 0 rows)[i]? = _
    rw [h3, e3]; simp
  · obtain ⟨j, y, hj, hm⟩ := mem_whole hm
    rw [List.getElem?_take] at hj
    split at hj
    · have := (h5 j y hj).c hm
      omega
    · cases hj
  · obtain ⟨j, y, hj, hm⟩ := mem_whole hm
    rw [List.getElem?_drop] at hj
    have := (h5 _ y hj).c hm
    omega
theorem Good.nb {rows : List Rw} (g : Good rows) : (layO rows).brakes.length = (bks rows).length := by
  obtain ⟨_, _, h3, _, _⟩ := g.bk
  show (brks 0 rows).length = _
  rw [h3]
  have : ∀ (P : List Bk) (n : Int), (brs n P).length = P.length := by
    intro P
    induction P with
    | nil => intro n; rfl
    | cons x P ih => intro n; show (brs _ P).length + 1 = _; rw [ih]; rfl
  exact this _ _
end Cr
/-! begins, ends, brakes -/
namespace Cr
open PySem L2
theorem ckb_ok (o : C20) (k : Int) (h : 0 ≤ k ∧ k < o.brakes.length) : t_layout_check_block o k = .ok () := by
  unfold t_layout_check_block
  rw [if_neg]
  simp only [Bool.not_eq_true', Bool.and_eq_false_iff, decide_eq_false_iff_not]
  omega
theorem ckb_err (o : C20) (k : Int) (h : ¬ (0 ≤ k ∧ k < o.brakes.length)) : t_layout_check_block o k = .err (.own 1) := by
  unfold t_layout_check_block
  rw [if_pos]
  simp only [Bool.not_eq_true', Bool.and_eq_false_iff, decide_eq_false_iff_not]
  omega
theorem idx_q {α : Type} {xs : List α} {i : Nat} {x : α} (h : xs[i]? = some x) : idxT xs (i : Int) = .ok x := by
  obtain ⟨hl, e⟩ := List.getElem?_eq_some_iff.mp h
  rw [idx_nat xs i hl, e]
theorem At.lt {rows : List Rw} {i : Nat} {A Z : List Mt} {x : Bk} (a : At rows i A x Z) : i < (layO rows).brakes.length := (List.getElem?_eq_some_iff.mp a.brk).1
theorem begin_ok {rows : List Rw} {i : Nat} {A Z : List Mt} {x : Bk} (a : At rows i A x Z) : t_layout_begin (layO rows) (i : Int) = .ok (A.length : Int) := by
  have := a.lt
  unfold t_layout_begin
  rw [ckb_ok _ _ ⟨by omega, by omega⟩, bnd_ok, idx_q a.beg]; rfl
end Cr
namespace Cr
open PySem L2
theorem end_ok {rows : List Rw} {i : Nat} {A Z : List Mt} {x : Bk} (a : At rows i A x Z) : t_layout_end (layO rows) (i : Int) = .ok ((A.length : Int) + x.1.length + x.2.length) := by
  have := a.lt
  unfold t_layout_end
  rw [ckb_ok _ _ ⟨by omega, by omega⟩, bnd_ok]
  have e : (i : Int) + 1 = ((i + 1 : Nat) : Int) := by omega
  rw [e, idx_q a.fin]; rfl
end Cr
/-! metres of a layout -/
namespace Cr
open PySem L2
theorem ckm_ok (o : C20) (k : Int) (h : 0 ≤ k ∧ k < o.metres.length) : t_layout_check_metre o k = .ok () := by
  unfold t_layout_check_metre
  rw [if_neg]
  simp only [Bool.not_eq_true', Bool.and_eq_false_iff, decide_eq_false_iff_not]
  omega
theorem ckm_err (o : C20) (k : Int) (h : ¬ (0 ≤ k ∧ k < o.metres.length)) : t_layout_check_metre o k = .err (.own 1) := by
  unfold t_layout_check_metre
  rw [if_pos]
  simp only [Bool.not_eq_true', Bool.and_eq_false_iff, decide_eq_false_iff_not]
  omega
theorem metre_ok (o : C20) (k : Nat) (h : k < o.metres.length) : t_layout_metre o (k : Int) = .ok o.metres[k] := by
  unfold t_layout_metre
  rw [ckm_ok o k (by omega), bnd_ok, idx_nat _ k h]; rfl
end Cr
/-! cells and draws -/
namespace Cr
open PySem L2
def isNum (n : Nat) (xs : List Int) : Prop := xs.length = n ∧ ∀ x ∈ xs, 0 ≤ x ∧ x < 4096
theorem num_rng {n : Nat} {xs : List Int} (h : isNum n xs) (k : Nat) : 0 ≤ xs.getD k 0 ∧ xs.getD k 0 < 4096 := by
  rw [List.getD_eq_getElem?_getD]
  cases q : xs[k]? with
  | none => exact ⟨Int.le_refl 0, by decide⟩
  | some x => exact h.2 x (List.mem_of_getElem? q)
theorem num_idx {n : Nat} {xs : List Int} (h : isNum n xs) (i : Int) (hi : 0 ≤ i ∧ i < n) : idxT xs i = .ok (xs.getD i.toNat 0) := idx_getD xs 0 i (by rw [h.1]; exact hi)
theorem cell_ok (ns : List Int) (k : Nat) : ∃ c : Int, 0 ≤ c ∧ t_law_cell ⟨ns⟩ (k : Int) = .ok c := by
  unfold t_law_cell
  by_cases h : k < ns.length
  · refine ⟨if ns[k] < 0 then -ns[k] else ns[k], by split <;> omega, ?_⟩
    have hd : decide ((k : Int) < ((ns.length : Nat) : Int)) = true := decide_eq_true (by omega)
    rw [if_pos hd, idx_nat ns k h, bnd_ok]
  · have hd : ¬ (decide ((k : Int) < ((ns.length : Nat) : Int)) = true) := by
      rw [decide_eq_true_eq]; omega
    exact ⟨0, by omega, if_neg hd⟩
theorem draws_ok (c : Int) (n : Nat) (hn : n < 1000) : ∃ xs : List Int, isNum n xs ∧ t_law_draws c (n : Int) = .ok xs := by
  unfold t_law_draws
  rw [rng_nat n (by omega), bnd_ok]
  refine fold_nis (C := fun r => ∃ xs : List Int, isNum n xs ∧ r = .ok xs) (fun k (s : List Int × Int) => isNum k s.1) ⟨rfl, fun x h => by cases h⟩ (fun j hj s hI => ?_) (fun s h => ⟨s.1, h, rfl⟩)
  have step : ∀ y : Int, 0 ≤ y ∧ y < 4096 → isNum (j + 1) (s.1 ++ [y]) := fun y hy => ⟨by simp [hI.1], fun z hz => by
    rcases List.mem_append.mp hz with h | h
    · exact hI.2 z h
    · rw [List.mem_singleton.mp h]; exact hy⟩
  have hl : s.1.length < 16777216 := by rw [hI.1]; omega
  by_cases hc : (decide ((1000000000000000000 : Int) ≤ c) && decide (0 < s.2)) = true
  · refine ⟨(s.1 ++ [s.2 % 4096], s.2 / 4096), ?_, step _ (by omega)⟩
    rw [if_pos hc, app_ok _ _ hl]; rfl
  · rw [if_neg hc]
    simp only [letT]
    rw [mul_r _ _ (by omega), bnd_ok, mul_r _ _ (by omega), bnd_ok, app_ok _ _ hl]
    exact ⟨_, rfl, step _ (by omega)⟩
end Cr
/-! trains -/
namespace Cr
open PySem L2
def okTrain (l : Int) (f b : T2 Int Int) (e g : Int) : Prop := (1 ≤ l ∧ l ≤ 100) ∧ (f.a ≤ f.b ∧ 0 ≤ f.a ∧ f.b ≤ 100000) ∧ (b.a ≤ b.b ∧ 1 ≤ b.a ∧ b.b ≤ 1000000) ∧ (1 ≤ e ∧ e ≤ 10000000) ∧ (1 ≤ g ∧ g ≤ 10000000)
theorem isiv_ok (p : T2 Int Int) : t_is_interval p = .ok (decide (p.a ≤ p.b)) := by
  unfold t_is_interval
  rw [decide_eq_true rfl, Bool.true_and]
theorem train_ok (l : Int) (f b : T2 Int Int) (e g : Int) : (okTrain l f b e g → t_train_init l f b e g = .ok ⟨l, f, b, e, g⟩) ∧ (¬ okTrain l f b e g → t_train_init l f b e g = .err (.own 3)) := by
  unfold t_train_init okTrain
  rw [isiv_ok, isiv_ok, bnd_ok, bnd_ok]
  simp only [Bool.not_eq_true', Bool.and_eq_false_iff, decide_eq_false_iff_not, Bool.or_eq_true, decide_eq_true_eq]
  constructor
  · intro h
    rw [if_neg (by omega), if_neg (by omega), if_neg (by omega), if_neg (by omega)]
  · intro h
    split
    · rfl
    · split
      · rfl
      · split
        · rfl
        · rw [if_pos (by omega)]
abbrev Tr := R5 Int (T2 Int Int) (T2 Int Int) Int Int
def okTr (d : Tr) : Prop := okTrain d.a d.b d.c d.d d.e
def trO (d : Tr) : C21 := ⟨d.a, d.b, d.c, d.d, d.e⟩
end Cr
/-! envelopes -/
namespace Cr
open PySem L2
/-- the envelope of a metre from the following one -/
def env1 (m : Mt) (li f b nx : Int) : Int :=
  if m.a = ("lift" : Str) then (if li ≤ nx ∧ 0 ≤ nx + (1962 * m.b + f) then nx + (1962 * m.b + f) else -1)
  else max 0 (max 0 nx + (1962 * m.b + f + (if m.a = ("brake" : Str) then b else 0)))
/-- the envelopes of metres, each block by itself -/
def envS (li f b : Int) : List Mt → List Int
  | [] => []
  | m :: ms => env1 m li f b (if (ms.head?.map (·.c)) = some m.c then (envS li f b ms).headD 0 else 0) :: envS li f b ms
theorem envS_len (li f b : Int) : ∀ ms : List Mt, (envS li f b ms).length = ms.length
  | [] => rfl
  | m :: ms => by show (envS li f b ms).length + 1 = _; rw [envS_len li f b ms]; rfl
theorem envS_append (li f b : Int) : ∀ (X Z : List Mt), (∀ m ∈ X, ∀ z ∈ Z, m.c ≠ z.c) → envS li f b (X ++ Z) = envS li f b X ++ envS li f b Z
  | [], Z, _ => rfl
  | m :: X, Z, h => by
    have ih := envS_append li f b X Z fun a ha z hz => h a (List.mem_cons_of_mem _ ha) z hz
    show env1 m li f b (if ((X ++ Z).head?.map (·.c)) = some m.c then (envS li f b (X ++ Z)).headD 0 else 0) :: envS li f b (X ++ Z) = env1 m li f b (if (X.head?.map (·.c)) = some m.c then (envS li f b X).headD 0 else 0) :: envS li f b X ++ envS li f b Z
    rw [ih]
    cases X with
    | nil =>
      have e : (([] ++ Z : List Mt).head?.map (·.c)) ≠ some m.c := by
        cases Z with
        | nil => simp
        | cons z Z =>
          have := h m (List.mem_cons_self ..) z (List.mem_cons_self ..)
          simp
          exact fun q => this q.symm
      rw [if_neg e, if_neg (by simp)]; rfl
    | cons y X => rfl
theorem envB_ok (o : C20) (t : C21) (k : Nat) (h : k < o.metres.length) (nx : Int) : t_envelope_before o t (k : Int) nx = .ok (env1 o.metres[k] t.lift t.friction.a t.brake.a nx) := by
  unfold t_envelope_before env1
  rw [metre_ok o k h, bnd_ok]
  simp only [letT]
  generalize o.metres[k] = m
  by_cases h1 : m.a = ("lift" : Str)
  · rw [if_pos (decide_eq_true h1), if_pos h1]
    simp only [Bool.and_eq_true, decide_eq_true_eq]
  · rw [if_neg (by rw [decide_eq_true_eq]; exact h1), if_neg h1]
    by_cases h2 : m.a = ("brake" : Str)
    · rw [if_pos (decide_eq_true h2), if_pos h2]; rfl
    · rw [if_neg (by rw [decide_eq_true_eq]; exact h2), if_neg h2, Int.add_zero]; rfl
theorem headD_append {α : Type} (a : α) (d : α) (l : List α) : (a :: l).headD d = a := rfl
theorem env_in {rows : List Rw} {t : C21} {i : Nat} {A Z : List Mt} {x : Bk} (a : At rows i A x Z) (f : Int → List Int × Int → Res (List Int × Int)) (hf : ∀ k s, f k s = (t_envelope_before (layO rows) t k s.2 >>= fun v => appT s.1 v >>= fun b => .ok (b, v))) (hl : (flat 0 rows).length < 10000) :
    foldT f (rangeI ((A.length : Int) + x.1.length + x.2.length - 1) (-1) (x.1 ++ x.2).length) ([], 0) = .ok ((envS t.lift t.friction.a t.brake.a (x.1 ++ x.2)).reverse, (envS t.lift t.friction.a t.brake.a (x.1 ++ x.2)).headD 0) := by
  have hX : ∀ m ∈ x.1 ++ x.2, m.c = (i : Int) := fun m hm => a.ok.c hm
  generalize hXe : x.1 ++ x.2 = X at *
  have hlen : ((A.length : Int) + x.1.length + x.2.length - 1) = (A.length : Int) + X.length - 1 := by rw [← hXe, List.length_append]; omega
  have hM : (layO rows).metres = A ++ X ++ Z := by rw [← hXe]; exact a.eq
  have hlt : X.length ≤ (flat 0 rows).length := by rw [a.eq, hXe]; simp; omega
  have key := foldT_rng (fun k => ((envS t.lift t.friction.a t.brake.a (X.drop (X.length - k))).reverse, (envS t.lift t.friction.a t.brake.a (X.drop (X.length - k))).headD 0)) (f := f) ((A.length : Int) + x.1.length + x.2.length - 1) (-1) X.length fun k hk => by
    have hd : X.drop (X.length - (k + 1)) = X[X.length - (k + 1)] :: X.drop (X.length - k) := by
      rw [List.drop_eq_getElem_cons (by omega)]
      congr 2; omega
    have ek : (A.length : Int) + x.1.length + x.2.length - 1 + (k : Int) * -1 = ((A.length + (X.length - (k + 1)) : Nat) : Int) := by rw [hlen]; omega
    have hk2 : A.length + (X.length - (k + 1)) < (layO rows).metres.length := by rw [hM]; simp; omega
    have eg : (layO rows).metres[A.length + (X.length - (k + 1))] = X[X.length - (k + 1)] := by
      have : (layO rows).metres[A.length + (X.length - (k + 1))]? = some X[X.length - (k + 1)] := by
        rw [hM, List.append_assoc, List.getElem?_append_right (by omega), List.getElem?_append_left (by omega)]
        have e : A.length + (X.length - (k + 1)) - A.length = X.length - (k + 1) := by omega
        rw [e, List.getElem?_eq_getElem (by omega)]
      rw [List.getElem?_eq_getElem hk2] at this
      exact Option.some.inj this
    rw [ek, hf, envB_ok _ t _ hk2, bnd_ok, eg, hd]
    have hsz : (envS t.lift t.friction.a t.brake.a (X.drop (X.length - k))).reverse.length < 16777216 := by
      rw [List.length_reverse, envS_len, List.length_drop]; omega
    rw [app_ok _ _ hsz, bnd_ok]
    have ec : (if ((X.drop (X.length - k)).head?.map (·.c)) = some X[X.length - (k + 1)].c then (envS t.lift t.friction.a t.brake.a (X.drop (X.length - k))).headD 0 else 0) = (envS t.lift t.friction.a t.brake.a (X.drop (X.length - k))).headD 0 := by
      cases hq : X.drop (X.length - k) with
      | nil => simp [envS]
      | cons y Y =>
        have hy : y ∈ X := List.mem_of_mem_drop (by rw [hq]; exact List.mem_cons_self ..)
        rw [if_pos (by simp [hX y hy, hX _ (List.getElem_mem (by omega : X.length - (k + 1) < X.length))])]
    show _ = Res.ok ((env1 _ _ _ _ _ :: envS _ _ _ _).reverse, (env1 _ _ _ _ _ :: envS _ _ _ _).headD 0)
    rw [ec, List.reverse_cons, headD_append]
  have e0 : X.drop (X.length - 0) = [] := by simp
  have e1 : X.drop (X.length - X.length) = X := by simp
  simp only [e0, e1] at key
  exact key
theorem take_succ_get {α : Type} {P : List α} {i : Nat} {x : α} (h : P[i]? = some x) : P.take (i + 1) = P.take i ++ [x] := by
  rw [List.take_succ, h]; rfl
theorem envelope_ok {rows : List Rw} (g : Good rows) (t : C21) : t_envelope (layO rows) t = .ok (envS t.lift t.friction.a t.brake.a (flat 0 rows)) := by
  have hlt := g.lt
  obtain ⟨h1, h2, h3, h4, h5⟩ := g.bk
  unfold t_envelope t_layout_blocks
  rw [bnd_ok, rng_nat _ (by rw [g.nb]; omega), bnd_ok, g.nb]
  have key := foldT_nis (fun j => envS t.lift t.friction.a t.brake.a (whole ((bks rows).take j))) (f := fun (x53 : Int) (s33 : (List Int)) =>
    ((t_layout_end (layO rows) x53) >>= fun v60 =>
    ((t_layout_begin (layO rows) x53) >>= fun v61 =>
    ((rng3T (v60 - (1 : Int)) (v61 - (1 : Int)) (-1 : Int)) >>= fun v62 =>
    (foldT (fun (x63 : Int) (s54 : ((List Int) × Int)) =>
    ((t_envelope_before (layO rows) t x63 s54.2) >>= fun following64 =>
    (appT s54.1 following64 >>= fun backward65 =>
    (.ok (backward65, following64))))) v62 (([] : (List Int)), (0 : Int)) >>= fun s57 =>
    (extT s33 s57.1.reverse >>= fun found66 =>
    (.ok found66))))))) (bks rows).length fun j hj => by
      obtain ⟨A, x, Z, a⟩ := g.at j hj
      have hAl : A.length ≤ (flat 0 rows).length ∧ A.length + (x.1 ++ x.2).length ≤ (flat 0 rows).length := by rw [a.eq]; simp only [List.length_append]; omega
      have hne : 0 < (x.1 ++ x.2).length := by
        have := a.ok.ne
        rw [List.length_append]
        have : 0 < x.2.length := List.length_pos_iff.mpr this
        omega
      have hxl : ((x.1 ++ x.2).length : Int) = x.1.length + x.2.length := by rw [List.length_append]; omega
      rw [end_ok a, bnd_ok, begin_ok a, bnd_ok, rng3_ok _ _ (by omega) (by omega), bnd_ok]
      have en : ((A.length : Int) + x.1.length + x.2.length - 1 - ((A.length : Int) - 1)).toNat = (x.1 ++ x.2).length := by omega
      rw [en, env_in a _ (fun _ _ => rfl) (by omega), bnd_ok, List.reverse_reverse, ext_ok, bnd_ok]
      · have hw : whole [x] = x.1 ++ x.2 := by rw [whole_cons]; simp [whole]
        have ea := envS_append t.lift t.friction.a t.brake.a (whole ((bks rows).take j)) (x.1 ++ x.2) fun m hm z hz => by
          have c1 := a.bef m (by rw [a.pre]; exact hm)
          have c2 := a.ok.c hz
          omega
        show _ = Res.ok (envS _ _ _ (whole ((bks rows).take (j + 1))))
        rw [take_succ_get a.get, whole_append, hw, ea]
      · rw [envS_len, envS_len, ← a.pre]; omega
  have e0 : envS t.lift t.friction.a t.brake.a (whole ((bks rows).take 0)) = [] := rfl
  rw [e0] at key
  have e1 : (bks rows).take (bks rows).length = bks rows := List.take_length
  rw [e1, ← h1] at key
  exact congrArg (fun r => r >>= fun s42 => Res.ok s42) key
end Cr
/-! one metre, in plain words -/
namespace Cr
open PySem L2
def aft (m : Mt) (l dr e f : Int) (s : Option Int) : Int :=
  if m.a = ("lift" : Str) then max l (e - 1962 * m.b - f)
  else if m.a = ("brake" : Str) ∧ s = none then max dr (e - 1962 * m.b - f)
  else if e = 0 then 0 else max 0 (e - 1962 * m.b - f - (if m.a = ("brake" : Str) then s.getD 0 else 0))
theorem aft_nn (m : Mt) (li dr e f : Int) (s : Option Int) (h1 : 0 ≤ li) (h2 : 0 ≤ dr) : 0 ≤ aft m li dr e f s := by
  unfold aft
  split
  · omega
  · split
    · omega
    · split <;> omega
def leS : Option Int → Option Int → Prop
  | none, none => True
  | some a, some b => b ≤ a
  | _, _ => False
theorem leS_refl (s : Option Int) : leS s s := by cases s <;> simp [leS]
/-- more energy, less friction and less strength give no less -/
theorem aft_mono (m : Mt) (li dr e e' f f' : Int) (s s' : Option Int) (h : e ≤ e') (h0 : 0 ≤ e) (hf : f' ≤ f) (hs : leS s s') : aft m li dr e f s ≤ aft m li dr e' f' s' := by
  unfold aft
  by_cases h1 : m.a = ("lift" : Str)
  · rw [if_pos h1, if_pos h1]; omega
  · rw [if_neg h1, if_neg h1]
    by_cases h2 : m.a = ("brake" : Str)
    · cases s with
      | none =>
        cases s' with
        | some b => exact False.elim hs
        | none =>
          simp only [h2, and_self, if_true]
          omega
      | some a =>
        cases s' with
        | none => exact False.elim hs
        | some b =>
          have hs : b ≤ a := hs
          simp only [h2, true_and, reduceCtorEq, if_false, if_true, Option.getD_some]
          split <;> split <;> omega
    · simp only [h2, false_and, if_false]
      split <;> split <;> omega
abbrev FS := T2 Int (Option Int)
end Cr
/-! where a train with closed brakes stands -/
namespace Cr
open PySem L2
/-- some energy of a roll is 0 -/
def sz (li dr : Int) : List Mt → Int → List FS → Bool
  | m :: ms, e, x :: xs => decide (aft m li dr e x.a x.b = 0) || sz li dr ms (aft m li dr e x.a x.b) xs
  | _, _, _ => false
/-- at or below the envelope: it comes to stand -/
theorem env_stop (li dr f b c : Int) (hli : 1 ≤ li) : ∀ (Y Z : List Mt) (e : Int) (xs : List FS), (∀ m ∈ Y, m.c = c) → xs.length = Y.length → (∀ x ∈ xs, f ≤ x.a ∧ ∃ s, x.b = some s ∧ b ≤ s) → 0 ≤ e → 0 < Y.length → e ≤ (envS li f b Y).headD 0 →
    (e = 0 ∧ ∃ m ms, Y = m :: ms ∧ m.a ≠ ("lift" : Str)) ∨ sz li dr (Y ++ Z) e xs = true
  | [], Z, e, xs, _, _, _, _, h, _ => by simp at h
  | m :: Y, Z, e, [], _, hl, _, _, _, _ => by simp at hl
  | m :: Y, Z, e, x :: xs, hc, hl, hx, he, _, hE => by
    have hE : e ≤ env1 m li f b (if (Y.head?.map (·.c)) = some m.c then (envS li f b Y).headD 0 else 0) := hE
    obtain ⟨hxa, s, hxs, hsb⟩ := hx x (List.mem_cons_self ..)
    have hnx : (if (Y.head?.map (·.c)) = some m.c then (envS li f b Y).headD 0 else 0) = (envS li f b Y).headD 0 := by
      cases Y with
      | nil => simp [envS]
      | cons y Y => rw [if_pos (by simp [hc m (by simp), hc y (by simp)])]
    rw [hnx] at hE
    have rec_ : ∀ e', 0 < e' → e' ≤ (envS li f b Y).headD 0 → sz li dr (Y ++ Z) e' xs = true := fun e' h1 h2 => by
      have hp : 0 < Y.length := by
        cases Y with
        | nil => simp [envS] at h2; omega
        | cons y Y => simp
      rcases env_stop li dr f b c hli Y Z e' xs (fun y hy => hc y (List.mem_cons_of_mem _ hy)) (by simpa using hl) (fun y hy => hx y (List.mem_cons_of_mem _ hy)) (by omega) hp h2 with ⟨h, _⟩ | h
      · omega
      · exact h
    have hsz : sz li dr (m :: Y ++ Z) e (x :: xs) = (decide (aft m li dr e x.a x.b = 0) || sz li dr (Y ++ Z) (aft m li dr e x.a x.b) xs) := rfl
    generalize hw : (envS li f b Y).headD 0 = w at hE rec_
    by_cases h1 : m.a = ("lift" : Str)
    · right
      unfold env1 at hE
      rw [if_pos h1] at hE
      by_cases h2 : li ≤ w ∧ 0 ≤ w + (1962 * m.b + f)
      · rw [if_pos h2] at hE
        have ha : aft m li dr e x.a x.b = max li (e - 1962 * m.b - x.a) := by unfold aft; rw [if_pos h1]
        rw [hsz, ha, rec_ _ (by omega) (by omega), Bool.or_true]
      · rw [if_neg h2] at hE
        omega
    · by_cases h0 : e = 0
      · exact .inl ⟨h0, m, Y, rfl, h1⟩
      · right
        unfold env1 at hE
        rw [if_neg h1] at hE
        have ha : aft m li dr e x.a x.b = max 0 (e - 1962 * m.b - x.a - (if m.a = ("brake" : Str) then s else 0)) := by
          unfold aft
          rw [if_neg h1, hxs, if_neg (fun z : m.a = ("brake" : Str) ∧ some s = none => by cases z.2), if_neg h0]; rfl
        rw [hsz, ha]
        have hle : (if m.a = ("brake" : Str) then b else 0) ≤ (if m.a = ("brake" : Str) then s else 0) := by split <;> omega
        generalize (if m.a = ("brake" : Str) then s else 0) = st at hle ⊢
        generalize (if m.a = ("brake" : Str) then b else 0) = bt at hE hle
        by_cases hz : max 0 (e - 1962 * m.b - x.a - st) = 0
        · rw [decide_eq_true hz, Bool.true_or]
        · rw [rec_ _ (by omega) (by omega), Bool.or_true]
theorem zip_ex {α : Type} (P : Int → Prop) (R : Option Int → Prop) : ∀ (fs : List Int) (ss : List (Option Int)), (∀ y ∈ fs, P y) → (∀ y ∈ ss, R y) → ∀ x ∈ List.zipWith T2.mk fs ss, P x.a ∧ R x.b
  | [], ss, _, _, x, hx => by simp at hx
  | f :: fs, [], _, _, x, hx => by simp at hx
  | f :: fs, s :: ss, h1, h2, x, hx => by
    rw [List.zipWith_cons_cons] at hx
    rcases List.mem_cons.mp hx with rfl | hx
    · exact ⟨h1 f (List.mem_cons_self ..), h2 s (List.mem_cons_self ..)⟩
    · exact zip_ex (α := α) P R fs ss (fun y hy => h1 y (List.mem_cons_of_mem _ hy)) (fun y hy => h2 y (List.mem_cons_of_mem _ hy)) x hx
end Cr
namespace Cr
open PySem L2
theorem cke_ok (o : C20) (k e : Int) (h : 0 ≤ k ∧ k < o.metres.length) (he : 0 ≤ e) : t_check_energy o k e = .ok () := by
  unfold t_check_energy
  rw [ckm_ok o k h, bnd_ok, if_neg (by rw [decide_eq_true_eq]; omega)]
theorem cke_m (o : C20) (k e : Int) (h : ¬ (0 ≤ k ∧ k < o.metres.length)) : t_check_energy o k e = .err (.own 1) := by
  unfold t_check_energy
  rw [ckm_err o k h]; rfl
theorem cke_e (o : C20) (k e : Int) (he : e < 0) : t_check_energy o k e = .err (.own 1) := by
  unfold t_check_energy
  by_cases h : 0 ≤ k ∧ k < o.metres.length
  · rw [ckm_ok o k h, bnd_ok, if_pos (by rw [decide_eq_true_eq]; omega)]
  · rw [ckm_err o k h]; rfl
end Cr
/-! one metre -/
namespace Cr
open PySem L2
theorem after_ok (o : C20) (t : C21) (k : Nat) (h : k < o.metres.length) (e f : Int) (s : Option Int) (he : 0 ≤ e) : t_after_metre o t (k : Int) e f s = .ok (aft o.metres[k] t.lift t.drive e f s) := by
  unfold t_after_metre aft
  rw [cke_ok o k e (by omega) he, bnd_ok, metre_ok o k h, bnd_ok]
  simp only [letT]
  generalize o.metres[k] = m
  by_cases h1 : m.a = ("lift" : Str)
  · rw [if_pos (decide_eq_true h1), if_pos h1]
  · rw [if_neg (by rw [decide_eq_true_eq]; exact h1), if_neg h1]
    by_cases h2 : m.a = ("brake" : Str)
    · cases s with
      | none => rw [if_pos (by rw [decide_eq_true h2]; rfl), if_pos ⟨h2, rfl⟩]
      | some s =>
        rw [if_neg (by rw [decide_eq_true h2]; simp), if_pos (decide_eq_true h2), if_neg (fun z => by cases z.2), if_pos h2]
        show (Res.ok s >>= fun v22 => Res.ok (e - 1962 * m.b - f - v22)) >>= _ = _
        rw [bnd_ok, bnd_ok]
        by_cases h3 : e = 0
        · rw [if_pos h3, if_neg (by rw [decide_eq_true_eq]; omega)]
        · rw [if_neg h3, if_pos (by rw [decide_eq_true_eq]; omega)]; rfl
    · rw [if_neg (by simp [h2]), if_neg (by rw [decide_eq_true_eq]; exact h2), if_neg (fun z => h2 z.1), if_neg h2, bnd_ok, Int.sub_zero]
      by_cases h3 : e = 0
      · rw [if_pos h3, if_neg (by rw [decide_eq_true_eq]; omega)]
      · rw [if_neg h3, if_pos (by rw [decide_eq_true_eq]; omega)]
end Cr
/-! rolls -/
namespace Cr
open PySem L2
def mAt (M : List Mt) (k : Nat) : Mt := M.getD (k % M.length) ⟨"", 0, 0⟩
def rollP (M : List Mt) (li dr : Int) : Nat → Int → List FS → List Int
  | _, _, [] => []
  | k, e, x :: xs => aft (mAt M k) li dr e x.a x.b :: rollP M li dr (k + 1) (aft (mAt M k) li dr e x.a x.b) xs
theorem rollP_len (M : List Mt) (li dr : Int) : ∀ (xs : List FS) (k : Nat) (e : Int), (rollP M li dr k e xs).length = xs.length
  | [], _, _ => rfl
  | x :: xs, k, e => by show (rollP M li dr (k + 1) _ xs).length + 1 = _; rw [rollP_len M li dr xs]; rfl
theorem mAt_get (M : List Mt) (k : Nat) (h : 0 < M.length) : mAt M k = M[k % M.length]'(Nat.mod_lt k h) := by
  unfold mAt
  rw [List.getD_eq_getElem?_getD, List.getElem?_eq_getElem (Nat.mod_lt k h)]; rfl
theorem roll_fold (o : C20) (t : C21) (h1 : 0 ≤ t.lift) (h2 : 0 ≤ t.drive) (hp : 0 < o.metres.length) (hl : o.metres.length < 10000)
    (F : FS → Int × Int × List Int → Res (Int × Int × List Int)) (hF : ∀ x s, F x s = (t_after_metre o t s.1 s.2.1 x.a x.b >>= fun e => appT s.2.2 e >>= fun f => t_layout_total o >>= fun v => modT (s.1 + 1) v >>= fun m => .ok (m, e, f))) :
    ∀ (xs : List FS) (k : Nat) (e : Int) (R : List Int), 0 ≤ e → R.length + xs.length < 16777216 →
    ∃ m e', foldT F xs (((k % o.metres.length : Nat) : Int), e, R) = .ok (m, e', R ++ rollP o.metres t.lift t.drive k e xs)
  | [], k, e, R, _, _ => ⟨((k % o.metres.length : Nat) : Int), e, by simp [foldT_nil, rollP]⟩
  | x :: xs, k, e, R, he, hz => by
    have hk : k % o.metres.length < o.metres.length := Nat.mod_lt k hp
    simp only [List.length_cons] at hz
    rw [foldT_cons, hF]
    have ea := after_ok o t (k % o.metres.length) hk e x.a x.b he
    have em : o.metres[k % o.metres.length] = mAt o.metres k := (mAt_get _ k hp).symm
    rw [em] at ea
    have ht : t_layout_total o = .ok (o.metres.length : Int) := rfl
    have ez : (((k % o.metres.length : Nat) : Int) + 1) % (o.metres.length : Int) = (((k + 1) % o.metres.length : Nat) : Int) := by
      rw [Int.natCast_emod, Int.natCast_emod, Int.emod_add_emod]; rfl
    obtain ⟨m, e', ih⟩ := roll_fold o t h1 h2 hp hl F hF xs (k + 1) _ (R ++ [aft (mAt o.metres k) t.lift t.drive e x.a x.b]) (aft_nn (mAt o.metres k) t.lift t.drive e x.a x.b h1 h2) (by simp; omega)
    refine ⟨m, e', ?_⟩
    refine stp (a := ((((k + 1) % o.metres.length : Nat) : Int), aft (mAt o.metres k) t.lift t.drive e x.a x.b, R ++ [aft (mAt o.metres k) t.lift t.drive e x.a x.b])) ?_ ?_
    · refine stp ea ?_
      rw [app_ok _ _ (by show R.length < _; omega), bnd_ok, ht, bnd_ok, mod_ok _ _ (by omega), bnd_ok, ← ez]
    · rw [ih]
      simp [rollP]
theorem roll_ok (o : C20) (t : C21) (h1 : 0 ≤ t.lift) (h2 : 0 ≤ t.drive) (hl : o.metres.length < 10000) (k : Nat) (hk : k < o.metres.length) (e : Int) (he : 0 ≤ e) (fs : List Int) (ss : List (Option Int)) (hs : fs.length = ss.length) (hz : fs.length < 16777216) :
    t_roll o t (k : Int) e fs ss = .ok (rollP o.metres t.lift t.drive k e (List.zipWith T2.mk fs ss)) := by
  unfold t_roll
  rw [cke_ok o k e (by omega) he, bnd_ok, if_neg (by rw [hs]; simp)]
  obtain ⟨m, e', h⟩ := roll_fold o t h1 h2 (by omega) hl _ (fun _ _ => rfl) (List.zipWith T2.mk fs ss) k e [] he (by simp; omega)
  have ek : ((k % o.metres.length : Nat) : Int) = (k : Int) := by rw [Nat.mod_eq_of_lt hk]
  rw [ek] at h
  have h2 := congrArg (fun r => r >>= fun s : Int × Int × List Int => Res.ok s.2.2) h
  exact h2
theorem roll_err (o : C20) (t : C21) (k e : Int) (fs : List Int) (ss : List (Option Int)) (h : ¬ (0 ≤ k ∧ k < o.metres.length) ∨ e < 0) : t_roll o t k e fs ss = .err (.own 1) := by
  unfold t_roll
  rcases h with h | h
  · rw [cke_m o k e h]; rfl
  · rw [cke_e o k e h]; rfl
theorem rep1 {α : Type} (a : α) (n : Nat) (h : n < 16777216) : repT [a] (n : Int) = .ok (List.replicate n a) := by
  unfold repT
  have e : -(2 ^ 63) ≤ (n : Int) ∧ (n : Int) < 2 ^ 63 ∧ ([a] : List α).length * (n : Int).toNat ≤ 16777216 := ⟨by omega, by omega, by simp; omega⟩
  rw [if_pos e, Int.toNat_natCast]
  congr 1
  induction n with
  | zero => rfl
  | succ n ih => rw [List.replicate_succ, List.flatten_cons, List.replicate_succ, ih (by omega) ⟨by omega, by omega, by simp; omega⟩]; rfl
theorem cut_last {α : Type} (xs : List α) : cutG xs none (some (-1 : Int)) = xs.dropLast := by
  unfold cutG
  rw [HT.sIx_none, List.drop_zero, Nat.sub_zero, List.dropLast_eq_take]
  have : HT.sIx xs.length xs.length (some (-1)) = xs.length - 1 := by
    show (if (-1 : Int) < 0 then ((-1 : Int) + (xs.length : Int)).toNat else min (-1 : Int).toNat xs.length) = _
    rw [if_pos (by decide)]; omega
  rw [this]
/-! rolls with one friction through open brakes -/
def run (li dr f : Int) : List Mt → Int → List Int
  | [], _ => []
  | m :: ms, e => aft m li dr e f none :: run li dr f ms (aft m li dr e f none)
def bef (li dr f : Int) : List Mt → Int → List Int
  | [], _ => []
  | m :: ms, e => e :: bef li dr f ms (aft m li dr e f none)
def fin (li dr f : Int) : List Mt → Int → Int
  | [], e => e
  | m :: ms, e => fin li dr f ms (aft m li dr e f none)
theorem run_len (li dr f : Int) : ∀ (ms : List Mt) (e : Int), (run li dr f ms e).length = ms.length
  | [], _ => rfl
  | m :: ms, e => by show (run li dr f ms _).length + 1 = _; rw [run_len li dr f ms]; rfl
theorem bef_len (li dr f : Int) : ∀ (ms : List Mt) (e : Int), (bef li dr f ms e).length = ms.length
  | [], _ => rfl
  | m :: ms, e => by show (bef li dr f ms _).length + 1 = _; rw [bef_len li dr f ms]; rfl
theorem bef_run (li dr f : Int) : ∀ (ms : List Mt) (e : Int), ms ≠ [] → bef li dr f ms e = e :: (run li dr f ms e).dropLast
  | [], _, h => absurd rfl h
  | [m], e, _ => rfl
  | m :: n :: ms, e, _ => by
    show e :: bef li dr f (n :: ms) _ = e :: (aft m li dr e f none :: run li dr f (n :: ms) _).dropLast
    rw [bef_run li dr f (n :: ms) _ (by simp)]
    rfl
theorem run_last (li dr f : Int) : ∀ (ms : List Mt) (e : Int), ms ≠ [] → ∃ pre, run li dr f ms e = pre ++ [fin li dr f ms e]
  | [], _, h => absurd rfl h
  | [m], e, _ => ⟨[], rfl⟩
  | m :: n :: ms, e, _ => by
    obtain ⟨p, h⟩ := run_last li dr f (n :: ms) (aft m li dr e f none) (by simp)
    refine ⟨aft m li dr e f none :: p, ?_⟩
    show aft m li dr e f none :: run li dr f (n :: ms) _ = _
    rw [h]; rfl
/-- a roll within the round is such a run -/
theorem rollP_run (li dr f : Int) (M : List Mt) : ∀ (ms pre : List Mt) (suf : List Mt) (e : Int), M = pre ++ ms ++ suf → rollP M li dr pre.length e (List.zipWith T2.mk (List.replicate ms.length f) (List.replicate ms.length none)) = run li dr f ms e
  | [], pre, suf, e, _ => rfl
  | m :: ms, pre, suf, e, h => by
    have hm : mAt M pre.length = m := by
      have hlt : pre.length < M.length := by rw [h]; simp
      rw [mAt_get M _ (by omega)]
      have : M[pre.length % M.length]? = some m := by
        rw [Nat.mod_eq_of_lt hlt, h, List.append_assoc, List.getElem?_append_right (by omega)]; simp
      rw [List.getElem?_eq_getElem (Nat.mod_lt _ (by omega))] at this
      exact Option.some.inj this
    have ih := rollP_run li dr f M ms (pre ++ [m]) suf (aft m li dr e f none) (by rw [h]; simp)
    rw [List.length_append, List.length_singleton] at ih
    rw [List.length_cons, List.replicate_succ, List.replicate_succ, List.zipWith_cons_cons]
    show aft (mAt M pre.length) li dr e f none :: rollP M li dr (pre.length + 1) (aft (mAt M pre.length) li dr e f none) _ = aft m li dr e f none :: run li dr f ms (aft m li dr e f none)
    rw [hm, ih]
theorem bef_append (li dr f : Int) : ∀ (a b : List Mt) (e : Int), bef li dr f (a ++ b) e = bef li dr f a e ++ bef li dr f b (fin li dr f a e)
  | [], b, e => rfl
  | m :: a, b, e => by show e :: bef li dr f (a ++ b) _ = _; rw [bef_append li dr f a b]; rfl
end Cr
/-! greatest and least energies -/
namespace Cr
open PySem L2
theorem fin_nn (li dr f : Int) (h1 : 0 ≤ li) (h2 : 0 ≤ dr) : ∀ (ms : List Mt) (e : Int), 0 ≤ e → 0 ≤ fin li dr f ms e
  | [], e, h => h
  | m :: ms, e, h => fin_nn li dr f h1 h2 ms _ (aft_nn m li dr e f none h1 h2)
theorem roll_one {rows : List Rw} (g : Good rows) (t : C21) (h1 : 0 ≤ t.lift) (h2 : 0 ≤ t.drive) (e f : Int) (he : 0 ≤ e) {A X Z : List Mt} (hM : flat 0 rows = A ++ X ++ Z) (hX : X ≠ []) :
    t_roll (layO rows) t (A.length : Int) e (List.replicate X.length f) (List.replicate X.length none) = .ok (run t.lift t.drive f X e) := by
  have hlt := g.lt
  have hl : A.length + X.length ≤ (flat 0 rows).length := by rw [hM]; simp only [List.length_append]; omega
  have hXp : 0 < X.length := List.length_pos_iff.mpr hX
  rw [roll_ok (layO rows) t h1 h2 (by show (flat 0 rows).length < _; omega) A.length (by show _ < (flat 0 rows).length; omega) e he _ _ (by simp) (by simp; omega)]
  rw [rollP_run t.lift t.drive f (layO rows).metres X A Z e hM]
theorem greatest_ok {rows : List Rw} (g : Good rows) (t : C21) (h1 : 0 ≤ t.lift) (h2 : 0 ≤ t.drive) : t_greatest_energies (layO rows) t = .ok (bef t.lift t.drive t.friction.a (flat 0 rows) (fin t.lift t.drive t.friction.a (flat 0 rows) t.drive)) := by
  have hlt := g.lt
  have hpos := g.pos
  have hne : flat 0 rows ≠ [] := List.length_pos_iff.mp hpos
  have ht : t_layout_total (layO rows) = .ok ((flat 0 rows).length : Int) := rfl
  unfold t_greatest_energies
  rw [ht, bnd_ok, rep1 _ _ (by omega), bnd_ok, rep1 _ _ (by omega), bnd_ok]
  have e1 := roll_one g t h1 h2 t.drive t.friction.a h2 (A := []) (X := flat 0 rows) (Z := []) (by simp) hne
  have e1 : t_roll (layO rows) t (0 : Int) t.drive (List.replicate (flat 0 rows).length t.friction.a) (List.replicate (flat 0 rows).length none) = _ := e1
  rw [e1, bnd_ok]
  obtain ⟨pre, hp⟩ := run_last t.lift t.drive t.friction.a (flat 0 rows) t.drive hne
  rw [hp, idx_last, bnd_ok, bnd_ok]
  have e2 := roll_one g t h1 h2 (fin t.lift t.drive t.friction.a (flat 0 rows) t.drive) t.friction.a (fin_nn _ _ _ h1 h2 _ _ h2) (A := []) (X := flat 0 rows) (Z := []) (by simp) hne
  have e2 : t_roll (layO rows) t (0 : Int) (fin t.lift t.drive t.friction.a (flat 0 rows) t.drive) (List.replicate (flat 0 rows).length t.friction.a) (List.replicate (flat 0 rows).length none) = _ := e2
  rw [e2, bnd_ok, cut_last, ext_ok, bnd_ok, bef_run _ _ _ _ _ hne]
  · rfl
  · rw [List.length_dropLast, run_len]; simp; omega
/-- the least energies of metres, each block by itself -/
def lsts (li dr f : Int) : List Bk → List Int
  | [] => []
  | x :: P => bef li dr f (x.1 ++ x.2) dr ++ lsts li dr f P
theorem lsts_append (li dr f : Int) : ∀ P Q : List Bk, lsts li dr f (P ++ Q) = lsts li dr f P ++ lsts li dr f Q
  | [], Q => rfl
  | x :: P, Q => by show _ ++ lsts li dr f (P ++ Q) = _; rw [lsts_append li dr f P Q, ← List.append_assoc]; rfl
theorem lsts_len (li dr f : Int) : ∀ P : List Bk, (lsts li dr f P).length = (whole P).length
  | [] => rfl
  | x :: P => by
    show (_ ++ lsts li dr f P).length = _
    rw [whole_cons, List.length_append, List.length_append, bef_len, lsts_len li dr f P]
theorem take_succ_g {α : Type} {P : List α} {i : Nat} {x : α} (h : P[i]? = some x) : P.take (i + 1) = P.take i ++ [x] := by
  rw [List.take_succ, h]; rfl
theorem least_ok {rows : List Rw} (g : Good rows) (t : C21) (h1 : 0 ≤ t.lift) (h2 : 0 ≤ t.drive) : t_least_energies (layO rows) t = .ok (lsts t.lift t.drive t.friction.b (bks rows)) := by
  have hlt := g.lt
  obtain ⟨k1, k2, k3, k4, k5⟩ := g.bk
  unfold t_least_energies t_layout_blocks
  rw [bnd_ok, rng_nat _ (by rw [g.nb]; omega), bnd_ok, g.nb]
  have key := foldT_nis (fun j => lsts t.lift t.drive t.friction.b ((bks rows).take j)) (f := fun (x85 : Int) (s69 : (List Int)) =>
    ((t_layout_end (layO rows) x85) >>= fun v86 =>
    ((t_layout_begin (layO rows) x85) >>= fun v87 =>
    (appT s69 t.drive >>= fun found88 =>
    ((repT ([t.friction.b] : (List Int)) (v86 - v87)) >>= fun rough89 =>
    ((t_layout_begin (layO rows) x85) >>= fun v90 =>
    ((repT ([(none : (Option Int))] : (List (Option Int))) (v86 - v87)) >>= fun v91 =>
    ((t_roll (layO rows) t v90 t.drive rough89 v91) >>= fun v92 =>
    (extT found88 (cutG v92 none (some (-1 : Int))) >>= fun found93 =>
    (.ok found93)))))))))) (bks rows).length fun j hj => by
      obtain ⟨A, x, Z, a⟩ := g.at j hj
      have hl : A.length + (x.1 ++ x.2).length ≤ (flat 0 rows).length := by rw [a.eq]; simp only [List.length_append]; omega
      have hne : x.1 ++ x.2 ≠ [] := fun z => a.ok.ne (List.append_eq_nil_iff.mp z).2
      have hxl : ((x.1 ++ x.2).length : Int) = x.1.length + x.2.length := by rw [List.length_append]; omega
      have hpl : 0 < (x.1 ++ x.2).length := List.length_pos_iff.mpr hne
      have hAl : (lsts t.lift t.drive t.friction.b ((bks rows).take j)).length = A.length := by rw [lsts_len, ← a.pre]
      have en : (A.length : Int) + x.1.length + x.2.length - (A.length : Int) = ((x.1 ++ x.2).length : Int) := by omega
      rw [end_ok a, bnd_ok, begin_ok a, bnd_ok, app_ok _ _ (by rw [hAl]; omega), bnd_ok, en, rep1 _ _ (by omega), bnd_ok, bnd_ok, rep1 _ _ (by omega), bnd_ok, roll_one g t h1 h2 t.drive t.friction.b h2 a.eq hne, bnd_ok, cut_last, ext_ok, bnd_ok]
      · rw [take_succ_g a.get, lsts_append]
        show _ = Res.ok (_ ++ (bef _ _ _ (x.1 ++ x.2) _ ++ []))
        rw [List.append_nil, bef_run _ _ _ _ _ hne, List.append_assoc]; rfl
      · rw [List.length_append, hAl, List.length_dropLast, run_len]; simp; omega
  rw [show (bks rows).take (bks rows).length = bks rows from List.take_length] at key
  exact congrArg (fun r => r >>= fun s => Res.ok s) key
end Cr
namespace Cr
open PySem L2
theorem brake_ok {rows : List Rw} {i : Nat} {A Z : List Mt} {x : Bk} (a : At rows i A x Z) : t_layout_brake (layO rows) (i : Int) = .ok ((A.length : Int) + x.1.length) := by
  have := a.lt
  unfold t_layout_brake
  rw [ckb_ok _ _ ⟨by omega, by omega⟩, bnd_ok, idx_q a.brk]; rfl
end Cr
/-! least numbers, cuts -/
namespace Cr
open PySem L2
theorem listMin_le : ∀ (xs : List Int) (x : Int), x ∈ xs → listMin xs ≤ x
  | [a], x, h => by rw [List.mem_singleton.mp h]; exact Int.le_refl a
  | a :: b :: r, x, h => by
    show min a (listMin (b :: r)) ≤ x
    rcases List.mem_cons.mp h with rfl | h
    · omega
    · have := listMin_le (b :: r) x h
      omega
theorem listMin_mem : ∀ (xs : List Int), xs ≠ [] → listMin xs ∈ xs
  | [], h => absurd rfl h
  | [a], _ => List.mem_cons_self ..
  | a :: b :: r, _ => by
    have ih := listMin_mem (b :: r) (by simp)
    show min a (listMin (b :: r)) ∈ _
    rcases Int.le_total a (listMin (b :: r)) with h | h
    · rw [Int.min_eq_left h]; exact List.mem_cons_self ..
    · rw [Int.min_eq_right h]; exact List.mem_cons_of_mem _ ih
theorem min_zero (xs : List Int) (h : xs ≠ []) (h0 : ∀ x ∈ xs, 0 ≤ x) : decide (listMin xs = 0) = decide ((0 : Int) ∈ xs) := by
  have hm := listMin_mem xs h
  by_cases q : (0 : Int) ∈ xs
  · rw [decide_eq_true q]
    have := listMin_le xs 0 q
    have := h0 _ hm
    exact decide_eq_true (by omega)
  · rw [decide_eq_false q]
    exact decide_eq_false fun z => q (z ▸ hm)
theorem cutG_nat {α : Type} (xs : List α) (a b : Nat) (h : a ≤ b) (hb : b ≤ xs.length) : cutG xs (some (a : Int)) (some (b : Int)) = (xs.drop a).take (b - a) := by
  unfold cutG
  rw [HT.sIx_nat, HT.sIx_nat, Nat.min_eq_left hb, Nat.min_eq_left (Nat.le_trans h hb)]
end Cr
/-! least values and slices -/
namespace Cr
open PySem L2
def grE (rows : List Rw) (li dr fa : Int) : List Int := bef li dr fa (flat 0 rows) (fin li dr fa (flat 0 rows) dr)
def leE (rows : List Rw) (li dr fb : Int) : List Int := lsts li dr fb (bks rows)
theorem bef_nn (li dr f : Int) (h1 : 0 ≤ li) (h2 : 0 ≤ dr) : ∀ (ms : List Mt) (e : Int), 0 ≤ e → ∀ x ∈ bef li dr f ms e, 0 ≤ x
  | [], e, _, x, hx => by cases hx
  | m :: ms, e, h, x, hx => by
    rcases List.mem_cons.mp hx with rfl | hx
    · exact h
    · exact bef_nn li dr f h1 h2 ms _ (aft_nn m li dr e f none h1 h2) x hx
theorem lsts_nn (li dr f : Int) (h1 : 0 ≤ li) (h2 : 0 ≤ dr) : ∀ (P : List Bk), ∀ x ∈ lsts li dr f P, 0 ≤ x
  | [], x, hx => by cases hx
  | y :: P, x, hx => by
    rcases List.mem_append.mp hx with hx | hx
    · exact bef_nn li dr f h1 h2 _ _ h2 x hx
    · exact lsts_nn li dr f h1 h2 P x hx
theorem At.ins {rows : List Rw} {i : Nat} {A Z : List Mt} {x : Bk} (a : At rows i A x Z) : A.length + x.1.length + x.2.length ≤ (flat 0 rows).length ∧ 0 < x.2.length := by
  constructor
  · rw [a.eq]; simp only [List.length_append]; omega
  · exact List.length_pos_iff.mpr a.ok.ne
end Cr
/-! faults -/
namespace Cr
open PySem L2
abbrev Ft := T2 Str Int
def flt (i : Int) (sh st fa : Bool) : List Ft := (if sh = true then [⟨"short", i⟩] else []) ++ (if st = true then [⟨"stall", i⟩] else []) ++ (if fa = true then [⟨"fast", i⟩] else [])
theorem flt_len (i : Int) (a b c : Bool) : (flt i a b c).length ≤ 3 := by cases a <;> cases b <;> cases c <;> simp [flt]
def begD (rows : List Rw) (i : Nat) : Int := (layO rows).begins.getD i 0
def brkD (rows : List Rw) (i : Nat) : Int := (layO rows).brakes.getD i 0
def flts (rows : List Rw) (len fa fb ba li dr : Int) (i : Nat) : List Ft :=
  flt i (decide (brkD rows i - begD rows i < len)) (decide ((0 : Int) ∈ cutG (leE rows li dr fb) (some (begD rows i)) (some (brkD rows i + 1)))) (decide ((envS li fa ba (flat 0 rows)).getD (brkD rows i).toNat 0 < (grE rows li dr fa).getD (brkD rows i).toNat 0))
def fauP (rows : List Rw) (len fa fb ba li dr : Int) : List Ft := (List.range (bks rows).length).flatMap (flts rows len fa fb ba li dr)
theorem At.begD {rows : List Rw} {i : Nat} {A Z : List Mt} {x : Bk} (a : At rows i A x Z) : begD rows i = A.length := by
  unfold Cr.begD; rw [List.getD_eq_getElem?_getD, a.beg]; rfl
theorem At.brkD {rows : List Rw} {i : Nat} {A Z : List Mt} {x : Bk} (a : At rows i A x Z) : brkD rows i = (A.length : Int) + x.1.length := by
  unfold Cr.brkD; rw [List.getD_eq_getElem?_getD, a.brk]; rfl
theorem fold_flt (F : Int → List Ft → Res (List Ft)) (G : Nat → List Ft) (n : Nat) (hG : ∀ i, (G i).length ≤ 3) (hn : n ≤ 1000) (h : ∀ (i : Nat) (s : List Ft), i < n → s.length ≤ 3 * i → F (i : Int) s = .ok (s ++ G i)) : foldT F (nis n) [] = .ok ((List.range n).flatMap G) := by
  have key : ∃ s', foldT F (nis n) [] = .ok s' ∧ (s' = (List.range n).flatMap G ∧ s'.length ≤ 3 * n) := by
    have := fold_nis (C := fun r => ∃ s', r = Res.ok s' ∧ (s' = (List.range n).flatMap G ∧ s'.length ≤ 3 * n)) (fun j (s : List Ft) => s = (List.range j).flatMap G ∧ s.length ≤ 3 * j) (f := F) (n := n) (s0 := []) (k := fun s => Res.ok s) ⟨rfl, Nat.le_refl 0⟩ (fun j hj s hI => by
      obtain ⟨h1, h2⟩ := hI
      refine ⟨_, h j s hj h2, ?_, ?_⟩
      · rw [h1, List.range_succ, List.flatMap_append]; simp
      · rw [List.length_append]; have := hG j; omega) (fun s hI => ⟨s, rfl, hI⟩)
    obtain ⟨s', e, h'⟩ := this
    refine ⟨s', ?_, h'⟩
    cases q : foldT F (nis n) [] with
    | ok a => rw [q] at e; exact e
    | err x => rw [q] at e; cases e
    | bad => rw [q] at e; cases e
  obtain ⟨s', e, h', _⟩ := key
  rw [e, h']
/-- the three tests of one block -/
theorem flt_step (i : Int) (s : List Ft) (a b c : Bool) (h : s.length ≤ 3000) {γ : Type} (k : List Ft → Res γ) :
    ((if a = true then (appT s (⟨("short" : Str), i⟩ : Ft) >>= fun f => .ok f) else (.ok s) : Res (List Ft)) >>= fun s1 =>
    ((if b = true then (appT s1 (⟨("stall" : Str), i⟩ : Ft) >>= fun f => .ok f) else (.ok s1) : Res (List Ft)) >>= fun s2 =>
    (if c = true then (appT s2 (⟨("fast" : Str), i⟩ : Ft) >>= fun f => .ok f) else (.ok s2) : Res (List Ft)))) = .ok (s ++ flt i a b c) := by
  unfold flt
  cases a <;> cases b <;> cases c <;> simp [app_ok, bnd_ok, show s.length < 16777216 by omega, show s.length + 1 < 16777216 by omega, show s.length + 1 + 1 < 16777216 by omega]
theorem faults_ok {rows : List Rw} (g : Good rows) (t : C21) (h1 : 0 ≤ t.lift) (h2 : 0 ≤ t.drive) : t_faults (layO rows) t = .ok (fauP rows t.length t.friction.a t.friction.b t.brake.a t.lift t.drive) := by
  have hlt := g.lt
  obtain ⟨k1, k2, k3, k4, k5⟩ := g.bk
  unfold t_faults t_layout_blocks
  rw [envelope_ok g, bnd_ok, least_ok g t h1 h2, bnd_ok, greatest_ok g t h1 h2, bnd_ok, bnd_ok, rng_nat _ (by rw [g.nb]; omega), bnd_ok, g.nb]
  refine stp (fold_flt _ (flts rows t.length t.friction.a t.friction.b t.brake.a t.lift t.drive) (bks rows).length (fun i => flt_len _ _ _ _) (by omega) fun i s hi hs => ?_) rfl
  obtain ⟨A, x, Z, a⟩ := g.at i hi
  have hin := a.ins
  have hLl : (lsts t.lift t.drive t.friction.b (bks rows)).length = (flat 0 rows).length := by rw [lsts_len, ← k1]
  have hGl := bef_len t.lift t.drive t.friction.a (flat 0 rows) (fin t.lift t.drive t.friction.a (flat 0 rows) t.drive)
  have eb : (A.length : Int) + (x.1.length : Int) = ((A.length + x.1.length : Nat) : Int) := by omega
  have eb1 : ((A.length + x.1.length : Nat) : Int) + 1 = ((A.length + x.1.length + 1 : Nat) : Int) := by omega
  rw [begin_ok a, bnd_ok, brake_ok a, bnd_ok, eb]
  have ec := cutG_nat (lsts t.lift t.drive t.friction.b (bks rows)) A.length (A.length + x.1.length + 1) (by omega) (by omega)
  have em : minT (cutG (lsts t.lift t.drive t.friction.b (bks rows)) (some (A.length : Int)) (some (((A.length + x.1.length : Nat) : Int) + 1))) = .ok (listMin (cutG (lsts t.lift t.drive t.friction.b (bks rows)) (some (A.length : Int)) (some (((A.length + x.1.length : Nat) : Int) + 1)))) := by
    unfold minT
    rw [if_pos]
    rw [eb1, ec, List.length_take, List.length_drop]
    omega
  have hz : decide (listMin (cutG (lsts t.lift t.drive t.friction.b (bks rows)) (some (A.length : Int)) (some (((A.length + x.1.length : Nat) : Int) + 1))) = 0) = decide ((0 : Int) ∈ (cutG (lsts t.lift t.drive t.friction.b (bks rows)) (some (A.length : Int)) (some (((A.length + x.1.length : Nat) : Int) + 1)))) := by
    refine min_zero _ ?_ ?_
    · intro z
      have := congrArg List.length z
      rw [eb1, ec, List.length_take, List.length_drop] at this
      simp at this
      omega
    · rw [eb1, ec]
      intro y hy
      exact lsts_nn _ _ _ h1 h2 _ y (List.mem_of_mem_drop (List.mem_of_mem_take hy))
  have hgr : idxT (bef t.lift t.drive t.friction.a (flat 0 rows) (fin t.lift t.drive t.friction.a (flat 0 rows) t.drive)) ((A.length + x.1.length : Nat) : Int) = .ok ((grE rows t.lift t.drive t.friction.a).getD (A.length + x.1.length) 0) := by
    rw [idx_getD _ 0 _ (by omega), Int.toNat_natCast]; rfl
  have hen : idxT (envS t.lift t.friction.a t.brake.a (flat 0 rows)) ((A.length + x.1.length : Nat) : Int) = .ok ((envS t.lift t.friction.a t.brake.a (flat 0 rows)).getD (A.length + x.1.length) 0) := by
    rw [idx_getD _ 0 _ (by rw [envS_len]; omega), Int.toNat_natCast]
  rw [em]
  have key := flt_step (i : Int) s (decide (((A.length + x.1.length : Nat) : Int) - (A.length : Int) < t.length)) (decide ((0 : Int) ∈ (cutG (lsts t.lift t.drive t.friction.b (bks rows)) (some (A.length : Int)) (some (((A.length + x.1.length : Nat) : Int) + 1))))) (decide ((envS t.lift t.friction.a t.brake.a (flat 0 rows)).getD (A.length + x.1.length) 0 < (grE rows t.lift t.drive t.friction.a).getD (A.length + x.1.length) 0)) (by omega) (γ := List Ft) (fun s => .ok s)
  rw [← hz] at key
  have hf : flts rows t.length t.friction.a t.friction.b t.brake.a t.lift t.drive i = flt i (decide (((A.length + x.1.length : Nat) : Int) - (A.length : Int) < t.length)) (decide (listMin (cutG (lsts t.lift t.drive t.friction.b (bks rows)) (some (A.length : Int)) (some (((A.length + x.1.length : Nat) : Int) + 1))) = 0)) (decide ((envS t.lift t.friction.a t.brake.a (flat 0 rows)).getD (A.length + x.1.length) 0 < (grE rows t.lift t.drive t.friction.a).getD (A.length + x.1.length) 0)) := by
    unfold flts
    rw [hz, a.begD, a.brkD, eb, Int.toNat_natCast]; rfl
  rw [hf, ← key]
  simp only [bnd_ok, hgr, hen]
end Cr
/-! two rounds are enough; rolls within their bounds -/
namespace Cr
open PySem L2
def dSum (f : Int) : List Mt → Int
  | [] => 0
  | m :: ms => (1962 * m.b + f) + dSum f ms
theorem fin_cases (li dr f : Int) (h1 : 0 ≤ li) (h2 : 0 ≤ dr) : ∀ (ms : List Mt) (e e' : Int), 0 ≤ e → e ≤ e' → fin li dr f ms e' = fin li dr f ms e ∨ fin li dr f ms e' = e' - dSum f ms
  | [], e, e', _, _ => .inr (by simp [fin, dSum])
  | m :: ms, e, e', h0, h => by
    have hm := aft_mono m li dr e e' f f none none h h0 (Int.le_refl f) trivial
    have hn := aft_nn m li dr e f none h1 h2
    have hc : aft m li dr e' f none = aft m li dr e f none ∨ aft m li dr e' f none = e' - (1962 * m.b + f) := by
      unfold aft
      by_cases q1 : m.a = ("lift" : Str)
      · simp only [q1, if_true]; omega
      · by_cases q2 : m.a = ("brake" : Str)
        · simp only [q2, and_self, if_true, reduceCtorEq]
          split <;> omega
        · simp only [q1, q2, false_and, if_false]
          split <;> split <;> omega
    show fin li dr f ms (aft m li dr e' f none) = fin li dr f ms (aft m li dr e f none) ∨ fin li dr f ms (aft m li dr e' f none) = e' - ((1962 * m.b + f) + dSum f ms)
    rcases hc with hc | hc
    · exact .inl (by rw [hc])
    · rcases fin_cases li dr f h1 h2 ms _ _ hn hm with q | q
      · exact .inl q
      · exact .inr (by rw [q, hc]; omega)
theorem dSum_append (f : Int) : ∀ a b : List Mt, dSum f (a ++ b) = dSum f a + dSum f b
  | [], b => by simp [dSum]
  | m :: a, b => by show _ + dSum f (a ++ b) = _ + dSum f a + dSum f b; rw [dSum_append f a b]; omega
theorem dSum_rep (f : Int) (m : Mt) : ∀ n : Nat, dSum f (List.replicate n m) = n * (1962 * m.b + f)
  | 0 => by simp [dSum]
  | n + 1 => by
    rw [List.replicate_succ]
    show _ + dSum f (List.replicate n m) = _
    rw [dSum_rep f m n, Int.natCast_succ, Int.add_mul]; omega
theorem dSum_flat (f : Int) : ∀ (rows : List Rw) (b : Int), (∀ r ∈ rows, 0 ≤ r.b) → dSum f (flat b rows) = 1962 * sumH rows + f * sumLn rows
  | [], b, _ => by simp [flat, dSum, sumH, sumLn]
  | r :: rs, b, h => by
    have hr := h r (List.mem_cons_self ..)
    show dSum f (List.replicate r.b.toNat (⟨r.a, r.c, b⟩ : Mt) ++ flat _ rs) = _
    rw [dSum_append, dSum_rep, dSum_flat f rs _ fun x hx => h x (List.mem_cons_of_mem _ hx), sumH_cons, sumLn_cons]
    have e : ((r.b.toNat : Nat) : Int) = r.b := by omega
    rw [e]
    simp only [Int.mul_add, Int.add_assoc]
    have e2 : r.b * (1962 * r.c) = 1962 * (r.b * r.c) := by rw [← Int.mul_assoc, Int.mul_comm r.b 1962, Int.mul_assoc]
    have e3 : r.b * f = f * r.b := Int.mul_comm _ _
    rw [e2, e3]
    omega
theorem fin_append (li dr f : Int) : ∀ (a b : List Mt) (e : Int), fin li dr f (a ++ b) e = fin li dr f b (fin li dr f a e)
  | [], b, e => rfl
  | m :: a, b, e => fin_append li dr f a b _
theorem Good.lastm {rows : List Rw} (g : Good rows) : ∃ pre m, flat 0 rows = pre ++ [m] ∧ m.a = ("brake" : Str) ∧ m.c = ((bks rows).length : Int) - 1 := by
  obtain ⟨h1, _, _, h4, h5⟩ := g.bk
  rcases snoc_cases (bks rows) with h0 | ⟨P, x, h0⟩
  · rw [h0] at h4
    simp at h4
  · have hx : (bks rows)[P.length]? = some x := by rw [h0]; simp
    have ok := h5 _ x hx
    rcases snoc_cases x.2 with q0 | ⟨q, m, q0⟩
    · exact absurd q0 ok.ne
    · refine ⟨whole P ++ x.1 ++ q, m, ?_, (ok.q m (by rw [q0]; simp)).2, ?_⟩
      · rw [h1, h0, whole_append, whole_cons, q0]
        simp [whole]
      · rw [(ok.q m (by rw [q0]; simp)).1, h0]
        simp
theorem dr_le {rows : List Rw} (g : Good rows) (li dr f e : Int) : dr ≤ fin li dr f (flat 0 rows) e := by
  obtain ⟨pre, m, h, hm, _⟩ := g.lastm
  rw [h, fin_append]
  show dr ≤ aft m li dr _ f none
  unfold aft
  simp only [hm, and_self, if_true, reduceCtorEq]
  split
  · rename_i q
    exact absurd q (by decide)
  · omega
theorem two_rounds {rows : List Rw} (g : Good rows) (li dr f : Int) (h1 : 0 ≤ li) (h2 : 0 ≤ dr) (hf : 0 ≤ f) : fin li dr f (flat 0 rows) (fin li dr f (flat 0 rows) dr) ≤ fin li dr f (flat 0 rows) dr := by
  have hd := dr_le g li dr f dr
  rcases fin_cases li dr f h1 h2 (flat 0 rows) dr _ h2 hd with q | q
  · omega
  · rw [q, dSum_flat f rows 0 g.nn, g.shut]
    have : 0 ≤ f * sumLn rows := Int.mul_nonneg hf (by have := sumLn_nn rows g.row; omega)
    omega
theorem bef_get0 (li dr f : Int) (ms : List Mt) (e : Int) (h : 0 < ms.length) : (bef li dr f ms e).getD 0 0 = e := by
  cases ms with
  | nil => simp at h
  | cons m ms => rfl
theorem bef_get (li dr f : Int) : ∀ (ms : List Mt) (e : Int) (j : Nat) (h : j < ms.length), aft ms[j] li dr ((bef li dr f ms e).getD j 0) f none = if j + 1 < ms.length then (bef li dr f ms e).getD (j + 1) 0 else fin li dr f ms e
  | [m], e, 0, h => rfl
  | m :: n :: ms, e, 0, h => by
    rw [if_pos (by simp)]
    rfl
  | m :: ms, e, j + 1, h => by
    have hj : j < ms.length := by simpa using h
    have := bef_get li dr f ms (aft m li dr e f none) j hj
    show aft ms[j] li dr ((bef li dr f ms _).getD j 0) f none = _
    rw [this]
    by_cases q : j + 1 < ms.length
    · rw [if_pos q, if_pos (by simpa using q)]; rfl
    · rw [if_neg q, if_neg (by simpa using q)]; rfl
/-- a roll stays below the greatest energies -/
theorem roll_below {rows : List Rw} (g : Good rows) (li dr f : Int) (h1 : 0 ≤ li) (h2 : 0 ≤ dr) (hf : 0 ≤ f) : ∀ (xs : List FS) (k : Nat) (e : Int), (∀ x ∈ xs, f ≤ x.a ∧ x.b = none) → 0 ≤ e → e ≤ (bef li dr f (flat 0 rows) (fin li dr f (flat 0 rows) dr)).getD (k % (flat 0 rows).length) 0 →
    ∀ i, i < xs.length → (rollP (flat 0 rows) li dr k e xs).getD i 0 ≤ (bef li dr f (flat 0 rows) (fin li dr f (flat 0 rows) dr)).getD ((k + i + 1) % (flat 0 rows).length) 0
  | [], k, e, _, _, _, i, hi => by simp at hi
  | x :: xs, k, e, hx, he, hb, i, hi => by
    have hpos := g.pos
    have hk := Nat.mod_lt k hpos
    have hxx := hx x (List.mem_cons_self ..)
    have em := mAt_get (flat 0 rows) k hpos
    have step : aft (mAt (flat 0 rows) k) li dr e x.a x.b ≤ (bef li dr f (flat 0 rows) (fin li dr f (flat 0 rows) dr)).getD ((k + 1) % (flat 0 rows).length) 0 := by
      have a1 := aft_mono (mAt (flat 0 rows) k) li dr e _ x.a f none none hb he hxx.1 trivial
      rw [hxx.2]
      have a2 := bef_get li dr f (flat 0 rows) (fin li dr f (flat 0 rows) dr) (k % (flat 0 rows).length) hk
      rw [← em] at a2
      rw [a2] at a1
      by_cases q : k % (flat 0 rows).length + 1 < (flat 0 rows).length
      · rw [if_pos q] at a1
        have : (k + 1) % (flat 0 rows).length = k % (flat 0 rows).length + 1 := by
          rw [Nat.add_mod]
          have h1' : 1 % (flat 0 rows).length = 1 := Nat.mod_eq_of_lt (by omega)
          rw [h1', Nat.mod_eq_of_lt q]
        rw [this]; exact a1
      · rw [if_neg q] at a1
        have : (k + 1) % (flat 0 rows).length = 0 := by
          have e : k % (flat 0 rows).length + 1 = (flat 0 rows).length := by omega
          rw [← Nat.mod_add_mod, e, Nat.mod_self]
        rw [this, bef_get0 _ _ _ _ _ hpos]
        exact Int.le_trans a1 (two_rounds g li dr f h1 h2 hf)
    cases i with
    | zero => exact step
    | succ i =>
      have ih := roll_below g li dr f h1 h2 hf xs (k + 1) _ (fun y hy => hx y (List.mem_cons_of_mem _ hy)) (aft_nn (mAt (flat 0 rows) k) li dr e x.a x.b h1 h2) step i (by simpa using hi)
      have e1 : k + 1 + i + 1 = k + (i + 1) + 1 := by omega
      rw [e1] at ih
      exact ih
/-- a roll stays above the least ones -/
theorem roll_above (li dr f : Int) (h1 : 0 ≤ li) (h2 : 0 ≤ dr) (M : List Mt) : ∀ (X pre suf : List Mt) (e e0 : Int) (xs : List FS), M = pre ++ X ++ suf → xs.length = X.length → (∀ x ∈ xs, x.a ≤ f ∧ x.b = none) → 0 ≤ e0 → e0 ≤ e →
    ∀ j, j < X.length → (bef li dr f X e0).getD j 0 ≤ (e :: rollP M li dr pre.length e xs).getD j 0
  | [], pre, suf, e, e0, xs, _, _, _, _, _, j, hj => by simp at hj
  | m :: X, pre, suf, e, e0, [], hM, hl, _, _, _, j, hj => by simp at hl
  | m :: X, pre, suf, e, e0, x :: xs, hM, hl, hx, h0, he, j, hj => by
    have hm : mAt M pre.length = m := by
      have hlt : pre.length < M.length := by rw [hM]; simp
      rw [mAt_get M _ (by omega)]
      have : M[pre.length % M.length]? = some m := by
        rw [Nat.mod_eq_of_lt hlt, hM, List.append_assoc, List.getElem?_append_right (by omega)]; simp
      rw [List.getElem?_eq_getElem (Nat.mod_lt _ (by omega))] at this
      exact Option.some.inj this
    cases j with
    | zero => exact he
    | succ j =>
      have hxx := hx x (List.mem_cons_self ..)
      have step : aft m li dr e0 f none ≤ aft m li dr e x.a x.b := by
        rw [hxx.2]
        exact aft_mono m li dr e0 e f x.a none none he h0 hxx.1 trivial
      have ih := roll_above li dr f h1 h2 M X (pre ++ [m]) suf (aft m li dr e x.a x.b) (aft m li dr e0 f none) xs (by rw [hM]; simp) (by simpa using hl) (fun y hy => hx y (List.mem_cons_of_mem _ hy)) (aft_nn m li dr e0 f none h1 h2) step j (by simpa using hj)
      rw [List.length_append, List.length_singleton] at ih
      show (bef li dr f X _).getD j 0 ≤ (rollP M li dr pre.length e (x :: xs)).getD j 0
      show _ ≤ (aft (mAt M pre.length) li dr e x.a x.b :: rollP M li dr (pre.length + 1) (aft (mAt M pre.length) li dr e x.a x.b) xs).getD j 0
      rw [hm]
      exact ih
end Cr
namespace Cr
open PySem L2
theorem kb_brake : kindB "brake" = true := by decide
theorem kb_coast : kindB "coast" = true := by decide
theorem nb_coast (b c : Int) : isBr ⟨"coast", b, c⟩ = false := by show decide (("coast" : Str) = "brake") = false; decide
end Cr
/-! layouts that are built to be safe -/
namespace Cr
open PySem L2
/-- rows built to be safe -/
def safeR (u s b1 c b2 : Int) : List Rw := [⟨"coast", 4, 0⟩, ⟨"lift", 2 + u, 5 + s⟩, ⟨"coast", 2 + u, 0 - (5 + s)⟩, ⟨"brake", 3 + b1, 0⟩, ⟨"coast", 4 + c, 0⟩, ⟨"brake", 3 + b2, 0⟩]
structure SafeN (u s b1 c b2 : Int) : Prop where
  u : 0 ≤ u ∧ u < 5
  s : 0 ≤ s ∧ s < 26
  b1 : 0 ≤ b1 ∧ b1 < 4
  c : 0 ≤ c ∧ c < 4
  b2 : 0 ≤ b2 ∧ b2 < 4
theorem kb_lift : kindB "lift" = true := by decide
theorem nb_lift (b c : Int) : isBr ⟨"lift", b, c⟩ = false := by show decide (("lift" : Str) = "brake") = false; decide
theorem br_brake (b c : Int) : isBr ⟨"brake", b, c⟩ = true := by show decide (("brake" : Str) = "brake") = true; decide
theorem safe_good {u s b1 c b2 : Int} (h : SafeN u s b1 c b2) : Good (safeR u s b1 c b2) := by
  have h1 := h.u
  have h2 := h.s
  have h3 := h.b1
  have h4 := h.c
  have h5 := h.b2
  have hm : (2 + u) * (0 - (5 + s)) = -((2 + u) * (5 + s)) := by rw [Int.zero_sub, Int.mul_neg]
  refine ⟨fun r hr => ?_, ?_, ?_, ⟨[⟨"coast", 4, 0⟩, ⟨"lift", 2 + u, 5 + s⟩, ⟨"coast", 2 + u, 0 - (5 + s)⟩, ⟨"brake", 3 + b1, 0⟩, ⟨"coast", 4 + c, 0⟩], ⟨"brake", 3 + b2, 0⟩, rfl, rfl⟩, ?_⟩
  · simp only [safeR, List.mem_cons, List.not_mem_nil, or_false] at hr
    rcases hr with rfl | rfl | rfl | rfl | rfl | rfl
    · exact ⟨kb_coast, by simp only []; omega, by simp only []; omega⟩
    · exact ⟨kb_lift, by simp only []; omega, by simp only []; omega⟩
    · exact ⟨kb_coast, by simp only []; omega, by simp only []; omega⟩
    · exact ⟨kb_brake, by simp only []; omega, by simp only []; omega⟩
    · exact ⟨kb_coast, by simp only []; omega, by simp only []; omega⟩
    · exact ⟨kb_brake, by simp only []; omega, by simp only []; omega⟩
  · simp only [safeR, sumLn, List.map_cons, List.map_nil, List.sum_cons, List.sum_nil]
    omega
  · simp only [safeR, sumH, List.map_cons, List.map_nil, List.sum_cons, List.sum_nil, Int.mul_zero, hm]
    omega
  · have : (safeR u s b1 c b2).filter isBr = [⟨"brake", 3 + b1, 0⟩, ⟨"brake", 3 + b2, 0⟩] := by
      simp [safeR, nb_coast, nb_lift, br_brake]
    rw [this]
    exact ⟨Nat.le_refl 2, by simp⟩
def rp (k : Str) (n s b : Int) : List Mt := List.replicate n.toNat ⟨k, s, b⟩
theorem rp_len (k : Str) (n s b : Int) : (rp k n s b).length = n.toNat := by simp [rp]
theorem safe_bks (u s b1 c b2 : Int) : bks (safeR u s b1 c b2) = [(rp "coast" 4 0 0 ++ rp "lift" (2 + u) (5 + s) 0 ++ rp "coast" (2 + u) (0 - (5 + s)) 0, rp "brake" (3 + b1) 0 0), (rp "coast" (4 + c) 0 1, rp "brake" (3 + b2) 0 1)] := by
  unfold bks safeR
  simp only [blkP, nb_coast, nb_lift, br_brake, Bool.false_eq_true, if_false, if_true]
  rfl
/-! upper bounds -/
theorem bef_ub (li dr f C : Int) (hf : 0 ≤ f) (Hm : Int) (hl : li ≤ C - 1962 * Hm) (hd : dr ≤ C - 1962 * Hm) (h0 : 0 ≤ C - 1962 * Hm) : ∀ (ms : List Mt) (h e : Int), 0 ≤ h → h ≤ Hm → (∀ y ∈ hts h ms, 0 ≤ y ∧ y ≤ Hm) → e ≤ C - 1962 * h →
    (∀ y ∈ bef li dr f ms e, y ≤ C) ∧ fin li dr f ms e ≤ C - 1962 * hEnd h ms
  | [], h, e, _, _, _, he => ⟨(fun y hy => by cases hy), he⟩
  | m :: ms, h, e, hh, hH, hy, he => by
    have hm := hy (h + m.b) (List.mem_cons_self ..)
    have step : aft m li dr e f none ≤ C - 1962 * (h + m.b) := by
      unfold aft
      by_cases q1 : m.a = ("lift" : Str)
      · rw [if_pos q1]; omega
      · by_cases q2 : m.a = ("brake" : Str)
        · rw [if_neg q1, if_pos ⟨q2, rfl⟩]; omega
        · simp only [q1, q2, false_and, if_false]
          split <;> omega
    obtain ⟨i1, i2⟩ := bef_ub li dr f C hf Hm hl hd h0 ms (h + m.b) _ hm.1 hm.2 (fun y q => hy y (List.mem_cons_of_mem _ q)) step
    refine ⟨fun y q => ?_, i2⟩
    rcases List.mem_cons.mp q with rfl | q
    · omega
    · exact i1 y q
theorem hts_rep (k : Str) (s b : Int) : ∀ (n : Nat) (h : Int), ∀ y ∈ hts h (List.replicate n (⟨k, s, b⟩ : Mt)), ∃ j : Nat, j ≤ n ∧ y = h + j * s
  | 0, h, y, hy => by cases hy
  | n + 1, h, y, hy => by
    rw [List.replicate_succ] at hy
    rcases List.mem_cons.mp hy with rfl | hy
    · exact ⟨1, by omega, by simp⟩
    · obtain ⟨j, hj, rfl⟩ := hts_rep k s b n (h + s) y hy
      exact ⟨j + 1, by omega, by rw [Int.natCast_succ, Int.add_mul]; omega⟩
theorem hEnd_rep (k : Str) (s b : Int) : ∀ (n : Nat) (h : Int), hEnd h (List.replicate n (⟨k, s, b⟩ : Mt)) = h + n * s
  | 0, h => by simp [hEnd]
  | n + 1, h => by
    rw [List.replicate_succ]
    show hEnd (h + s) (List.replicate n (⟨k, s, b⟩ : Mt)) = _
    rw [hEnd_rep k s b n, Int.natCast_succ, Int.add_mul]; omega
theorem hEnd_append : ∀ (a b : List Mt) (h : Int), hEnd h (a ++ b) = hEnd (hEnd h a) b
  | [], b, h => rfl
  | m :: a, b, h => hEnd_append a b _
/-- all energies of such a layout with such a train -/
theorem safe_ub {u s b1 c b2 : Int} (h : SafeN u s b1 c b2) (li dr f : Int) (hl : li ≤ 44100) (hd : dr ≤ 24100) (hf : 0 ≤ f) (hd0 : 0 ≤ dr) (hl0 : 0 ≤ li) : (∀ y ∈ grE (safeR u s b1 c b2) li dr f, y ≤ 400000) := by
  have h1 := h.u
  have h2 := h.s
  have h3 := h.b1
  have h4 := h.c
  have h5 := h.b2
  have hW : flat 0 (safeR u s b1 c b2) = rp "coast" 4 0 0 ++ rp "lift" (2 + u) (5 + s) 0 ++ rp "coast" (2 + u) (0 - (5 + s)) 0 ++ rp "brake" (3 + b1) 0 0 ++ (rp "coast" (4 + c) 0 1 ++ rp "brake" (3 + b2) 0 1) := by
    rw [(safe_good h).bk.1, safe_bks]
    simp [whole]
  have hn : (((2 + u).toNat : Nat) : Int) = 2 + u := by omega
  have hp : (2 + u) * (5 + s) ≤ 180 := by
    have : u = 0 ∨ u = 1 ∨ u = 2 ∨ u = 3 ∨ u = 4 := by omega
    rcases this with rfl | rfl | rfl | rfl | rfl <;> omega
  have hp0 : 0 ≤ (2 + u) * (5 + s) := Int.mul_nonneg (by omega) (by omega)
  have hts0 : ∀ y ∈ hts 0 (flat 0 (safeR u s b1 c b2)), 0 ≤ y ∧ y ≤ 180 := by
    intro y hy
    rw [hW] at hy
    simp only [hts_append, List.mem_append, hEnd_append] at hy
    unfold rp at hy
    simp only [hEnd_rep] at hy
    have e1 : (0 : Int) + ((4 : Int).toNat : Int) * 0 = 0 := by omega
    rw [e1] at hy
    simp only [hn, Int.mul_zero, Int.add_zero, Int.zero_add] at hy
    have e2 : (2 + u) * (5 + s) + (2 + u) * (0 - (5 + s)) = 0 := by rw [Int.zero_sub, Int.mul_neg]; omega
    simp only [e2] at hy
    rcases hy with ((((hy | hy) | hy) | hy) | (hy | hy))
    · obtain ⟨j, _, rfl⟩ := hts_rep _ _ _ _ _ _ hy; omega
    · obtain ⟨j, hj, rfl⟩ := hts_rep _ _ _ _ _ _ hy
      have hj' : (j : Int) ≤ 2 + u := by omega
      have q1 : (j : Int) * (5 + s) ≤ (2 + u) * (5 + s) := Int.mul_le_mul_of_nonneg_right hj' (by omega)
      have q2 : 0 ≤ (j : Int) * (5 + s) := Int.mul_nonneg (by omega) (by omega)
      omega
    · obtain ⟨j, hj, rfl⟩ := hts_rep _ _ _ _ _ _ hy
      have hj' : (j : Int) ≤ 2 + u := by omega
      have q1 : (j : Int) * (5 + s) ≤ (2 + u) * (5 + s) := Int.mul_le_mul_of_nonneg_right hj' (by omega)
      have q2 : 0 ≤ (j : Int) * (5 + s) := Int.mul_nonneg (by omega) (by omega)
      have q3 : (j : Int) * (0 - (5 + s)) = -((j : Int) * (5 + s)) := by rw [Int.zero_sub, Int.mul_neg]
      omega
    · obtain ⟨j, _, rfl⟩ := hts_rep _ _ _ _ _ _ hy; omega
    · obtain ⟨j, _, rfl⟩ := hts_rep _ _ _ _ _ _ hy; omega
    · obtain ⟨j, _, rfl⟩ := hts_rep _ _ _ _ _ _ hy; omega
  have hE : hEnd 0 (flat 0 (safeR u s b1 c b2)) = 0 := by
    rw [hW]
    simp only [hEnd_append]
    unfold rp
    simp only [hEnd_rep, hn, Int.mul_zero, Int.add_zero, Int.zero_add]
    rw [Int.zero_sub, Int.mul_neg]; omega
  obtain ⟨_, r2⟩ := bef_ub li dr f 400000 hf 180 (by omega) (by omega) (by omega) (flat 0 (safeR u s b1 c b2)) 0 dr (by omega) (by omega) hts0 (by omega)
  rw [hE] at r2
  obtain ⟨r3, _⟩ := bef_ub li dr f 400000 hf 180 (by omega) (by omega) (by omega) (flat 0 (safeR u s b1 c b2)) 0 _ (by omega) (by omega) hts0 r2
  exact r3
/-! lower bounds -/
theorem lb_coast (li dr f : Int) (hf : 0 ≤ f) : ∀ (ms : List Mt) (e : Int), (∀ m ∈ ms, m.a = ("coast" : Str) ∧ m.b ≤ 0) → 0 < e - ms.length * f → (∀ y ∈ bef li dr f ms e, 0 < y) ∧ e - ms.length * f ≤ fin li dr f ms e
  | [], e, _, h => ⟨(fun y hy => by cases hy), by simp [fin]⟩
  | m :: ms, e, hm, h => by
    have h0 := hm m (List.mem_cons_self ..)
    have hl : ((m :: ms).length : Int) * f = ms.length * f + f := by rw [List.length_cons, Int.natCast_succ, Int.add_mul]; omega
    have hp : 0 ≤ (ms.length : Int) * f := Int.mul_nonneg (by omega) hf
    rw [hl] at h ⊢
    have step : e - f ≤ aft m li dr e f none := by
      unfold aft
      rw [h0.1, if_neg (by decide), if_neg (fun z => absurd z.1 (by decide)), if_neg (by omega), if_neg (by decide)]
      omega
    obtain ⟨i1, i2⟩ := lb_coast li dr f hf ms _ (fun x hx => hm x (List.mem_cons_of_mem _ hx)) (by omega : 0 < aft m li dr e f none - ms.length * f)
    refine ⟨fun y hy => ?_, ?_⟩
    · rcases List.mem_cons.mp hy with rfl | hy
      · omega
      · exact i1 y hy
    · show _ ≤ fin li dr f ms (aft m li dr e f none)
      omega
theorem lb_lift (li dr f : Int) (hl : 0 < li) : ∀ (ms : List Mt) (e : Int), (∀ m ∈ ms, m.a = ("lift" : Str)) → 0 < e → (∀ y ∈ bef li dr f ms e, 0 < y) ∧ (ms ≠ [] → li ≤ fin li dr f ms e) ∧ 0 < fin li dr f ms e
  | [], e, _, h => ⟨(fun y hy => by cases hy), fun z => absurd rfl z, h⟩
  | m :: ms, e, hm, h => by
    have h0 := hm m (List.mem_cons_self ..)
    have step : li ≤ aft m li dr e f none := by
      unfold aft
      rw [if_pos h0]; omega
    obtain ⟨i1, i2, i3⟩ := lb_lift li dr f hl ms _ (fun x hx => hm x (List.mem_cons_of_mem _ hx)) (by omega : 0 < aft m li dr e f none)
    refine ⟨fun y hy => ?_, fun _ => ?_, i3⟩
    · rcases List.mem_cons.mp hy with rfl | hy
      · exact h
      · exact i1 y hy
    · show li ≤ fin li dr f ms (aft m li dr e f none)
      cases ms with
      | nil => exact step
      | cons n ms => exact i2 (by simp)
theorem rp_all (k : Str) (n s b : Int) : ∀ m ∈ rp k n s b, m = ⟨k, s, b⟩ := fun m hm => List.eq_of_mem_replicate hm
/-- envelopes of a brake at the end of its block -/
theorem env_brakes (li f b : Int) (hf : 0 ≤ f) (hb : 0 ≤ b) (c : Int) (Z : List Mt) (hZ : ∀ z ∈ Z, z.c ≠ c) : ∀ n : Nat, n * (f + b) ≤ (envS li f b (List.replicate (n + 1) (⟨"brake", 0, c⟩ : Mt) ++ Z)).headD 0 - (f + b)
  | 0 => by
    show _ ≤ env1 ⟨"brake", 0, c⟩ li f b (if (((Z : List Mt)).head?.map (·.c)) = some c then (envS li f b Z).headD 0 else 0) - (f + b)
    rw [if_neg]
    · unfold env1
      rw [if_neg (by decide : ¬ ("brake" : Str) = "lift"), if_pos rfl]
      simp only [Int.mul_zero]
      omega
    · cases Z with
      | nil => simp
      | cons z Z => simp; exact hZ z (List.mem_cons_self ..)
  | n + 1 => by
    have ih := env_brakes li f b hf hb c Z hZ n
    rw [List.replicate_succ, List.cons_append]
    show _ ≤ env1 ⟨"brake", 0, c⟩ li f b (if ((List.replicate (n + 1) (⟨"brake", 0, c⟩ : Mt) ++ Z).head?.map (·.c)) = some c then (envS li f b (List.replicate (n + 1) (⟨"brake", 0, c⟩ : Mt) ++ Z)).headD 0 else 0) - (f + b)
    rw [if_pos (by rw [List.replicate_succ]; rfl)]
    have hp : 0 ≤ (n : Int) * (f + b) := Int.mul_nonneg (by omega) (by omega)
    have e : ((n + 1 : Nat) : Int) * (f + b) = n * (f + b) + (f + b) := by rw [Int.natCast_succ, Int.add_mul]; omega
    rw [e]
    generalize (envS li f b (List.replicate (n + 1) (⟨"brake", 0, c⟩ : Mt) ++ Z)).headD 0 = w at ih ⊢
    unfold env1
    rw [if_neg (by decide : ¬ ("brake" : Str) = "lift"), if_pos rfl]
    simp only [Int.mul_zero]
    omega
theorem envS_drop (li f b : Int) : ∀ (A Y : List Mt), (envS li f b (A ++ Y)).drop A.length = envS li f b Y
  | [], Y => rfl
  | m :: A, Y => envS_drop li f b A Y
theorem getD_drop {α : Type} (xs : List α) (n : Nat) (d : α) : xs.getD n d = (xs.drop n).headD d := by
  rw [List.getD_eq_getElem?_getD, List.headD_eq_head?_getD, List.head?_drop]
theorem grE_mem (rows : List Rw) (li dr f : Int) (k : Nat) (C : Int) (hC : 0 ≤ C) (h : ∀ y ∈ grE rows li dr f, y ≤ C) : (grE rows li dr f).getD k 0 ≤ C := by
  rw [List.getD_eq_getElem?_getD]
  cases q : (grE rows li dr f)[k]? with
  | none => exact hC
  | some y => exact h y (List.mem_of_getElem? q)
structure SafeT (len fa fb ba li dr : Int) : Prop where
  len : len ≤ 4
  f : 0 ≤ fa ∧ fa ≤ fb ∧ fb ≤ 118
  b : 400000 ≤ ba
  l : 40000 ≤ li ∧ li ≤ 44100
  d : 20000 ≤ dr ∧ dr ≤ 24100
theorem safe_none {u s b1 c b2 : Int} (h : SafeN u s b1 c b2) {len fa fb ba li dr : Int} (t : SafeT len fa fb ba li dr) : fauP (safeR u s b1 c b2) len fa fb ba li dr = [] := by
  have g := safe_good h
  have h1 := h.u
  have h2 := h.s
  have h3 := h.b1
  have h4 := h.c
  have h5 := h.b2
  have t1 := t.len
  have t2 := t.f
  have t3 := t.b
  have t4 := t.l
  have t5 := t.d
  have hub := safe_ub h li dr fa t4.2 t5.2 t2.1 (by omega) (by omega)
  have hB := safe_bks u s b1 c b2
  unfold fauP
  rw [List.flatMap_eq_nil_iff]
  intro i hi
  have hi : i < (bks (safeR u s b1 c b2)).length := List.mem_range.mp hi
  have hi2 : i = 0 ∨ i = 1 := by rw [hB] at hi; simp at hi; omega
  obtain ⟨A, x, Z, a⟩ := g.at i hi
  have hin := a.ins
  -- the shape of the block
  have hshape : (∃ n : Nat, 2 ≤ n ∧ x.2 = List.replicate (n + 1) (⟨"brake", 0, (i : Int)⟩ : Mt)) ∧ 4 ≤ x.1.length ∧ (∀ y ∈ bef li dr fb x.1 dr, 0 < y) ∧ 0 < fin li dr fb x.1 dr := by
    have hg := a.get
    rw [hB] at hg
    have c4 : ∀ (w : Int), (∀ m ∈ rp "coast" w 0 0, m.a = ("coast" : Str) ∧ m.b ≤ 0) := fun w m hm => by rw [rp_all _ _ _ _ m hm]; exact ⟨rfl, Int.le_refl 0⟩
    rcases hi2 with rfl | rfl
    · have hg : some _ = some x := hg
      cases hg
      refine ⟨⟨(2 + b1).toNat, by omega, ?_⟩, ?_, ?_⟩
      · show List.replicate (3 + b1).toNat _ = _
        have : (3 + b1).toNat = (2 + b1).toNat + 1 := by omega
        rw [this]; rfl
      · simp only [List.length_append, rp_len]; omega
      · obtain ⟨r1, r2⟩ := lb_coast li dr fb (by omega) (rp "coast" 4 0 0) dr (c4 4) (by rw [rp_len]; simp; omega)
        rw [rp_len] at r2
        have hfin : 0 < fin li dr fb (rp "coast" 4 0 0) dr := by
          have : (((4 : Int).toNat : Nat) : Int) = 4 := rfl
          rw [this] at r2
          omega
        obtain ⟨r3, r4, r5⟩ := lb_lift li dr fb (by omega) (rp "lift" (2 + u) (5 + s) 0) _ (fun m hm => by rw [rp_all _ _ _ _ m hm]) hfin
        have r4 := r4 (by intro z; have := congrArg List.length z; rw [rp_len] at this; simp at this; omega)
        obtain ⟨r6, r7⟩ := lb_coast li dr fb (by omega) (rp "coast" (2 + u) (0 - (5 + s)) 0) _ (fun m hm => by rw [rp_all _ _ _ _ m hm]; exact ⟨rfl, by simp only []; omega⟩) (by
          rw [rp_len]
          have e : (((2 + u).toNat : Nat) : Int) = 2 + u := by omega
          rw [e]
          have : (2 + u) * fb ≤ 6 * 118 := by
            have q1 : (2 + u) * fb ≤ 6 * fb := Int.mul_le_mul_of_nonneg_right (by omega) (by omega)
            omega
          omega : 0 < fin li dr fb (rp "lift" (2 + u) (5 + s) 0) (fin li dr fb (rp "coast" 4 0 0) dr) - (rp "coast" (2 + u) (0 - (5 + s)) 0).length * fb)
        rw [rp_len] at r7
        have hq : (((2 + u).toNat : Nat) : Int) * fb ≤ 6 * 118 := by
          have e : (((2 + u).toNat : Nat) : Int) = 2 + u := by omega
          rw [e]
          have q1 : (2 + u) * fb ≤ 6 * fb := Int.mul_le_mul_of_nonneg_right (by omega) (by omega)
          omega
        simp only [bef_append, fin_append, List.mem_append]
        refine ⟨fun y hy => ?_, by omega⟩
        rcases hy with (hy | hy) | hy
        · exact r1 y hy
        · exact r3 y hy
        · exact r6 y hy
    · have hg : some _ = some x := hg
      cases hg
      refine ⟨⟨(2 + b2).toNat, by omega, ?_⟩, ?_, ?_⟩
      · show List.replicate (3 + b2).toNat _ = _
        have : (3 + b2).toNat = (2 + b2).toNat + 1 := by omega
        rw [this]; rfl
      · simp only [rp_len]; omega
      · have hq : (((4 + c).toNat : Nat) : Int) * fb ≤ 7 * 118 := by
          have e : (((4 + c).toNat : Nat) : Int) = 4 + c := by omega
          rw [e]
          have q1 : (4 + c) * fb ≤ 7 * fb := Int.mul_le_mul_of_nonneg_right (by omega) (by omega)
          omega
        obtain ⟨r1, r2⟩ := lb_coast li dr fb (by omega) (rp "coast" (4 + c) 0 1) dr (fun m hm => by rw [rp_all _ _ _ _ m hm]; exact ⟨rfl, Int.le_refl 0⟩) (by rw [rp_len]; omega)
        rw [rp_len] at r2
        exact ⟨r1, (by omega : 0 < fin li dr fb (rp "coast" (4 + c) 0 1) dr)⟩
  obtain ⟨⟨n, hn, hx2⟩, hp, hpos, hfin⟩ := hshape
  have hst : (0 : Int) ∉ cutG (leE (safeR u s b1 c b2) li dr fb) (some (begD (safeR u s b1 c b2) i)) (some (brkD (safeR u s b1 c b2) i + 1)) := by
    have e1 : brkD (safeR u s b1 c b2) i + 1 = ((A.length + x.1.length + 1 : Nat) : Int) := by rw [a.brkD]; omega
    have hLl : (leE (safeR u s b1 c b2) li dr fb).length = (flat 0 (safeR u s b1 c b2)).length := by unfold leE; rw [lsts_len, ← g.bk.1]
    rw [a.begD, e1, cutG_nat _ _ _ (by omega) (by omega)]
    have hlw : leE (safeR u s b1 c b2) li dr fb = lsts li dr fb ((bks (safeR u s b1 c b2)).take i) ++ (bef li dr fb (x.1 ++ x.2) dr ++ lsts li dr fb ((bks (safeR u s b1 c b2)).drop (i + 1))) := by
      unfold leE
      have es : bks (safeR u s b1 c b2) = (bks (safeR u s b1 c b2)).take i ++ x :: (bks (safeR u s b1 c b2)).drop (i + 1) := by
        have : (bks (safeR u s b1 c b2))[i] = x := by
          have := a.get
          rw [List.getElem?_eq_getElem hi] at this
          exact Option.some.inj this
        rw [← this, ← List.drop_eq_getElem_cons hi, List.take_append_drop]
      conv => lhs; rw [es]
      rw [lsts_append]; rfl
    have hll : (lsts li dr fb ((bks (safeR u s b1 c b2)).take i)).length = A.length := by rw [lsts_len, ← a.pre]
    have hd : (leE (safeR u s b1 c b2) li dr fb).drop A.length = bef li dr fb (x.1 ++ x.2) dr ++ lsts li dr fb ((bks (safeR u s b1 c b2)).drop (i + 1)) := by
      rw [hlw, ← hll, List.drop_left]
    have hx2e : x.2 = ⟨"brake", 0, (i : Int)⟩ :: List.replicate n (⟨"brake", 0, (i : Int)⟩ : Mt) := by rw [hx2, List.replicate_succ]
    rw [hd, bef_append, hx2e]
    have e2 : A.length + x.1.length + 1 - A.length = (bef li dr fb x.1 dr).length + 1 := by rw [bef_len]; omega
    rw [e2]
    intro hmem
    have e3 : (bef li dr fb x.1 dr ++ bef li dr fb (⟨"brake", 0, (i : Int)⟩ :: List.replicate n (⟨"brake", 0, (i : Int)⟩ : Mt)) (fin li dr fb x.1 dr) ++ lsts li dr fb ((bks (safeR u s b1 c b2)).drop (i + 1))).take ((bef li dr fb x.1 dr).length + 1) = bef li dr fb x.1 dr ++ [fin li dr fb x.1 dr] := by
      rw [List.append_assoc, List.take_length_add_append]
      rfl
    rw [e3] at hmem
    rcases List.mem_append.mp hmem with q | q
    · have := hpos 0 q; omega
    · have := List.mem_singleton.mp q; omega
  have hfa : ¬ ((envS li fa ba (flat 0 (safeR u s b1 c b2))).getD (brkD (safeR u s b1 c b2) i).toNat 0 < (grE (safeR u s b1 c b2) li dr fa).getD (brkD (safeR u s b1 c b2) i).toNat 0) := by
    have e1 : (brkD (safeR u s b1 c b2) i).toNat = A.length + x.1.length := by rw [a.brkD]; omega
    have hG := grE_mem (safeR u s b1 c b2) li dr fa (brkD (safeR u s b1 c b2) i).toNat 400000 (by omega) hub
    have hEv : (envS li fa ba (flat 0 (safeR u s b1 c b2))).getD (brkD (safeR u s b1 c b2) i).toNat 0 = (envS li fa ba (List.replicate (n + 1) (⟨"brake", 0, (i : Int)⟩ : Mt) ++ Z)).headD 0 := by
      rw [e1, getD_drop]
      have em : flat 0 (safeR u s b1 c b2) = (A ++ x.1) ++ (List.replicate (n + 1) (⟨"brake", 0, (i : Int)⟩ : Mt) ++ Z) := by rw [a.eq, hx2]; simp
      have el : A.length + x.1.length = (A ++ x.1).length := by rw [List.length_append]
      rw [em, el, envS_drop]
    have := env_brakes li fa ba t2.1 (by omega) (i : Int) Z (fun z hz => by have := a.aft z hz; omega) n
    rw [hEv]
    have h2n : 2 * (fa + ba) ≤ (n : Int) * (fa + ba) := Int.mul_le_mul_of_nonneg_right (by omega) (by omega)
    omega
  unfold flts
  rw [decide_eq_false hfa, decide_eq_false hst, decide_eq_false (by rw [a.brkD, a.begD]; omega)]
  rfl
end Cr
/-! a layout with no faults: trains stand when asked, else they come -/
namespace Cr
open PySem L2
def rollL (li dr : Int) : List Mt → Int → List FS → List Int
  | m :: ms, e, x :: xs => aft m li dr e x.a x.b :: rollL li dr ms (aft m li dr e x.a x.b) xs
  | _, _, _ => []
def finL (li dr : Int) : List Mt → Int → List FS → Int
  | m :: ms, e, x :: xs => finL li dr ms (aft m li dr e x.a x.b) xs
  | _, e, _ => e
theorem rollL_nil (li dr : Int) (M : List Mt) (e : Int) : rollL li dr M e [] = [] := by cases M <;> rfl
theorem rollP_L (M : List Mt) (li dr : Int) : ∀ (xs : List FS) (k : Nat) (e : Int), k + xs.length ≤ M.length → rollP M li dr k e xs = rollL li dr (M.drop k) e xs
  | [], k, e, _ => (rollL_nil li dr _ e).symm
  | x :: xs, k, e, h => by
    rw [List.length_cons] at h
    have hk : k < M.length := by omega
    have em : mAt M k = M[k] := by
      unfold mAt
      rw [Nat.mod_eq_of_lt hk, List.getD_eq_getElem?_getD, List.getElem?_eq_getElem hk]; rfl
    rw [List.drop_eq_getElem_cons hk]
    show aft (mAt M k) li dr e x.a x.b :: rollP M li dr (k + 1) _ xs = _
    rw [em, rollP_L M li dr xs (k + 1) _ (by omega)]
    rfl
theorem rollL_append (li dr : Int) : ∀ (Y W : List Mt) (e : Int) (xs ys : List FS), xs.length = Y.length → rollL li dr (Y ++ W) e (xs ++ ys) = rollL li dr Y e xs ++ rollL li dr W (finL li dr Y e xs) ys
  | [], W, e, xs, ys, h => by
    have : xs = [] := List.length_eq_zero_iff.mp h
    subst this
    rfl
  | m :: Y, W, e, [], ys, h => by simp at h
  | m :: Y, W, e, x :: xs, ys, h => by
    show _ :: rollL li dr (Y ++ W) _ (xs ++ ys) = _
    rw [rollL_append li dr Y W _ xs ys (by simpa using h)]; rfl
theorem rollL_len (li dr : Int) : ∀ (Y : List Mt) (e : Int) (xs : List FS), xs.length ≤ Y.length → (rollL li dr Y e xs).length = xs.length
  | [], e, xs, h => by
    have : xs = [] := List.length_eq_zero_iff.mp (by simpa using h)
    subst this; rfl
  | m :: Y, e, [], h => rfl
  | m :: Y, e, x :: xs, h => by
    show (rollL li dr Y _ xs).length + 1 = _
    rw [rollL_len li dr Y _ xs (by simpa using h)]; rfl
theorem aft_nb (m : Mt) (li dr e f : Int) (s : Option Int) (h : m.a ≠ ("brake" : Str)) : aft m li dr e f s = aft m li dr e f none := by
  unfold aft
  rw [if_neg h, if_neg h]
  simp only [h, false_and, if_false]
theorem lowE (li dr fb : Int) (h1 : 0 ≤ li) (h2 : 0 ≤ dr) : ∀ (Y : List Mt) (e0 e : Int) (xs : List FS), (∀ m ∈ Y, m.a ≠ ("brake" : Str)) → xs.length = Y.length → (∀ x ∈ xs, x.a ≤ fb) → 0 ≤ e0 → e0 ≤ e → (∀ y ∈ run li dr fb Y e0, 0 < y) →
    (∀ y ∈ rollL li dr Y e xs, 0 < y) ∧ fin li dr fb Y e0 ≤ finL li dr Y e xs
  | [], e0, e, xs, _, h, _, _, he, _ => by
    have : xs = [] := List.length_eq_zero_iff.mp h
    subst this
    exact ⟨fun y hy => by simp [rollL] at hy, he⟩
  | m :: Y, e0, e, [], _, h, _, _, _, _ => by simp at h
  | m :: Y, e0, e, x :: xs, hb, hl, hx, h0, he, hr => by
    have ha := aft_nb m li dr e x.a x.b (hb m (List.mem_cons_self ..))
    have step : aft m li dr e0 fb none ≤ aft m li dr e x.a x.b := by
      rw [ha]; exact aft_mono m li dr e0 e fb x.a none none he h0 (hx x (List.mem_cons_self ..)) trivial
    have hp : 0 < aft m li dr e0 fb none := hr _ (List.mem_cons_self ..)
    obtain ⟨i1, i2⟩ := lowE li dr fb h1 h2 Y (aft m li dr e0 fb none) (aft m li dr e x.a x.b) xs (fun y hy => hb y (List.mem_cons_of_mem _ hy)) (by simpa using hl) (fun y hy => hx y (List.mem_cons_of_mem _ hy)) (by omega) step (fun y hy => hr y (List.mem_cons_of_mem _ hy))
    refine ⟨fun y hy => ?_, i2⟩
    rcases List.mem_cons.mp hy with rfl | hy
    · omega
    · exact i1 y hy
theorem uppE (li dr fa : Int) (h1 : 0 ≤ li) (h2 : 0 ≤ dr) : ∀ (Y : List Mt) (e e1 : Int) (xs : List FS), (∀ m ∈ Y, m.a ≠ ("brake" : Str)) → xs.length = Y.length → (∀ x ∈ xs, fa ≤ x.a) → 0 ≤ e → e ≤ e1 → 0 ≤ finL li dr Y e xs ∧ finL li dr Y e xs ≤ fin li dr fa Y e1
  | [], e, e1, xs, _, h, _, h0, he => by
    have : xs = [] := List.length_eq_zero_iff.mp h
    subst this
    exact ⟨h0, he⟩
  | m :: Y, e, e1, [], _, h, _, _, _ => by simp at h
  | m :: Y, e, e1, x :: xs, hb, hl, hx, h0, he => by
    have ha := aft_nb m li dr e x.a x.b (hb m (List.mem_cons_self ..))
    have step : aft m li dr e x.a x.b ≤ aft m li dr e1 fa none := by
      rw [ha]; exact aft_mono m li dr e e1 x.a fa none none he h0 (hx x (List.mem_cons_self ..)) trivial
    exact uppE li dr fa h1 h2 Y _ _ xs (fun y hy => hb y (List.mem_cons_of_mem _ hy)) (by simpa using hl) (fun y hy => hx y (List.mem_cons_of_mem _ hy)) (aft_nn m li dr e x.a x.b h1 h2) step
theorem bef_fin (li dr f : Int) : ∀ (Y : List Mt) (e : Int), bef li dr f Y e ++ [fin li dr f Y e] = e :: run li dr f Y e
  | [], e => rfl
  | m :: Y, e => by
    show e :: (bef li dr f Y _ ++ [fin li dr f Y _]) = _
    rw [bef_fin li dr f Y]; rfl
theorem sz_mem (li dr : Int) : ∀ (Y : List Mt) (e : Int) (xs : List FS), sz li dr Y e xs = decide ((0 : Int) ∈ rollL li dr Y e xs)
  | [], e, xs => by cases xs <;> rfl
  | m :: Y, e, [] => rfl
  | m :: Y, e, x :: xs => by
    show (decide (aft m li dr e x.a x.b = 0) || sz li dr Y _ xs) = decide ((0 : Int) ∈ aft m li dr e x.a x.b :: rollL li dr Y _ xs)
    rw [sz_mem li dr Y]
    by_cases h : aft m li dr e x.a x.b = 0
    · simp [h]
    · have h' : ¬ (0 : Int) = aft m li dr e x.a x.b := fun z => h z.symm
      simp [h, h']
theorem open_ge (li dr : Int) : ∀ (B Z : List Mt) (e : Int) (xs : List FS), (∀ m ∈ B, m.a = ("brake" : Str)) → xs.length = B.length → (∀ x ∈ xs, x.b = none) → ∀ y ∈ rollL li dr (B ++ Z) e xs, dr ≤ y
  | [], Z, e, xs, _, h, _, y, hy => by
    have : xs = [] := List.length_eq_zero_iff.mp h
    subst this
    rw [rollL_nil] at hy; cases hy
  | m :: B, Z, e, [], _, h, _, y, hy => by simp at h
  | m :: B, Z, e, x :: xs, hb, hl, hx, y, hy => by
    have hy : y ∈ aft m li dr e x.a x.b :: rollL li dr (B ++ Z) (aft m li dr e x.a x.b) xs := hy
    rcases List.mem_cons.mp hy with rfl | hy
    · have hm := hb m (List.mem_cons_self ..)
      unfold aft
      rw [if_neg (by rw [hm]; decide), if_pos ⟨hm, hx x (List.mem_cons_self ..)⟩]
      omega
    · exact open_ge li dr B Z _ xs (fun y hy => hb y (List.mem_cons_of_mem _ hy)) (by simpa using hl) (fun y hy => hx y (List.mem_cons_of_mem _ hy)) y hy
theorem take_pos {α : Type} {Y W : List α} : (Y ++ W).take Y.length = Y := by simp
/-- one block of a layout that has no faults -/
theorem comes {rows : List Rw} (g : Good rows) {len fa fb ba li dr : Int} (hf : 0 ≤ fa) (hli : 1 ≤ li) (hdr : 1 ≤ dr) {i : Nat} {A Z : List Mt} {x : Bk} (a : At rows i A x Z) (hn : fauP rows len fa fb ba li dr = [])
    (xs : List FS) (hl : xs.length = (x.1 ++ x.2).length) (hx : ∀ y ∈ xs, fa ≤ y.a ∧ y.a ≤ fb) (e : Int) (he : dr ≤ e) (he2 : e ≤ (grE rows li dr fa).getD A.length 0) :
    ((∀ y ∈ xs, ∃ s, y.b = some s ∧ ba ≤ s) → (0 : Int) ∉ (rollL li dr ((x.1 ++ x.2) ++ Z) e xs).take x.1.length ∧ (0 : Int) ∈ (rollL li dr ((x.1 ++ x.2) ++ Z) e xs).drop x.1.length) ∧
    ((∀ y ∈ xs, y.b = none) → (0 : Int) ∉ rollL li dr ((x.1 ++ x.2) ++ Z) e xs ∧ ∃ l, (rollL li dr ((x.1 ++ x.2) ++ Z) e xs).getLast? = some l ∧ dr ≤ l) := by
  have hin := a.ins
  have hlen : x.1.length + x.2.length = (x.1 ++ x.2).length := List.length_append.symm
  have hib : i < (bks rows).length := (List.getElem?_eq_some_iff.mp a.get).1
  have hfl : flts rows len fa fb ba li dr i = [] := by
    unfold fauP at hn
    exact List.flatMap_eq_nil_iff.mp hn i (List.mem_range.mpr hib)
  have hst : (0 : Int) ∉ cutG (leE rows li dr fb) (some (begD rows i)) (some (brkD rows i + 1)) := by
    intro z
    unfold flts flt at hfl
    rw [decide_eq_true z] at hfl
    simp at hfl
  have hfa : ¬ (envS li fa ba (flat 0 rows)).getD (brkD rows i).toNat 0 < (grE rows li dr fa).getD (brkD rows i).toNat 0 := by
    intro z
    unfold flts flt at hfl
    rw [decide_eq_true z] at hfl
    simp at hfl
  -- the brakes
  obtain ⟨b0, B, hB⟩ : ∃ b0 B, x.2 = b0 :: B := by
    cases h : x.2 with
    | nil => rw [h] at hin; simp at hin
    | cons b0 B => exact ⟨b0, B, rfl⟩
  have hYn : ∀ m ∈ x.1, m.a ≠ ("brake" : Str) := fun m hm => (a.ok.p m hm).2
  have hBn : ∀ m ∈ x.2, m.a = ("brake" : Str) := fun m hm => (a.ok.q m hm).2
  -- least energies of the block
  have hLl : (leE rows li dr fb).length = (flat 0 rows).length := by unfold leE; rw [lsts_len, ← g.bk.1]
  have ebk : brkD rows i = ((A.length + x.1.length : Nat) : Int) := by rw [a.brkD]; omega
  have ebk1 : brkD rows i + 1 = ((A.length + x.1.length + 1 : Nat) : Int) := by rw [ebk]; omega
  rw [a.begD, ebk1, cutG_nat _ _ _ (by omega) (by omega)] at hst
  have hLt : (leE rows li dr fb).drop A.length = (bef li dr fb (x.1 ++ x.2) dr) ++ lsts li dr fb ((bks rows).drop (i + 1)) := by
    have hsp : bks rows = (bks rows).take i ++ (x :: (bks rows).drop (i + 1)) := by
      obtain ⟨h1, h2⟩ := List.getElem?_eq_some_iff.mp a.get
      rw [← h2, ← List.drop_eq_getElem_cons h1, List.take_append_drop]
    have hAl : (lsts li dr fb ((bks rows).take i)).length = A.length := by rw [lsts_len, ← a.pre]
    unfold leE
    have e1 : lsts li dr fb (bks rows) = lsts li dr fb ((bks rows).take i) ++ lsts li dr fb (x :: (bks rows).drop (i + 1)) := by
      rw [← lsts_append]; exact congrArg _ hsp
    rw [e1, ← hAl, List.drop_left]; rfl
  have hbe : bef li dr fb (x.1 ++ x.2) dr = (dr :: run li dr fb x.1 dr) ++ (bef li dr fb (x.1 ++ x.2) dr).drop (x.1.length + 1) := by
    rw [bef_append, hB]
    have : bef li dr fb (b0 :: B) (fin li dr fb x.1 dr) = fin li dr fb x.1 dr :: bef li dr fb B (aft b0 li dr (fin li dr fb x.1 dr) fb none) := rfl
    rw [this, ← List.singleton_append, ← List.append_assoc, bef_fin]
    have hl2 : (dr :: run li dr fb x.1 dr).length = x.1.length + 1 := by rw [List.length_cons, run_len]
    rw [← hl2, List.drop_left]
  have hrun : ∀ y ∈ run li dr fb x.1 dr, 0 < y := by
    intro y hy
    have hnn := lsts_nn li dr fb (by omega) (by omega) (bks rows) y
    have hmem : y ∈ ((leE rows li dr fb).drop A.length).take (A.length + x.1.length + 1 - A.length) := by
      have e2 : A.length + x.1.length + 1 - A.length = (dr :: run li dr fb x.1 dr).length := by rw [List.length_cons, run_len]; omega
      rw [hLt, hbe, List.append_assoc, e2, List.take_left]
      exact List.mem_cons_of_mem _ hy
    have h0 : y ≠ 0 := fun z => hst (z ▸ hmem)
    have := hnn (List.mem_of_mem_drop (List.mem_of_mem_take hmem))
    omega
  -- the roll in two parts
  obtain ⟨xa, xb, hxab, hxa⟩ : ∃ xa xb : List FS, xs = xa ++ xb ∧ xa.length = x.1.length := ⟨xs.take x.1.length, xs.drop x.1.length, (List.take_append_drop _ _).symm, by rw [List.length_take]; omega⟩
  have hxb : xb.length = x.2.length := by rw [hxab, List.length_append] at hl; omega
  have hR : rollL li dr ((x.1 ++ x.2) ++ Z) e xs = rollL li dr x.1 e xa ++ rollL li dr (x.2 ++ Z) (finL li dr x.1 e xa) xb := by
    rw [List.append_assoc, hxab, rollL_append li dr x.1 (x.2 ++ Z) e xa xb hxa]
  have hRl : (rollL li dr x.1 e xa).length = x.1.length := by rw [rollL_len li dr x.1 e xa (by omega), hxa]
  have hma : ∀ y ∈ xa, y ∈ xs := fun y hy => by rw [hxab]; exact List.mem_append_left _ hy
  have hmb : ∀ y ∈ xb, y ∈ xs := fun y hy => by rw [hxab]; exact List.mem_append_right _ hy
  obtain ⟨p1, p2⟩ := lowE li dr fb (by omega) (by omega) x.1 dr e xa hYn hxa (fun y hy => (hx y (hma y hy)).2) (by omega) he hrun
  have hY0 : (0 : Int) ∉ rollL li dr x.1 e xa := fun z => absurd (p1 0 z) (by decide)
  have hfp : 0 < finL li dr x.1 e xa := by
    have : 0 < fin li dr fb x.1 dr := by
      have hmem : fin li dr fb x.1 dr ∈ dr :: run li dr fb x.1 dr := by rw [← bef_fin]; simp
      rcases List.mem_cons.mp hmem with h | h
      · omega
      · exact hrun _ h
    omega
  rw [hR]
  refine ⟨fun hs => ?_, fun hs => ?_⟩
  · rw [← hRl, List.take_left, List.drop_left]
    refine ⟨hY0, ?_⟩
    -- the energy at the brake is below the envelope
    have hgr : (grE rows li dr fa).getD (A.length + x.1.length) 0 = fin li dr fa x.1 ((grE rows li dr fa).getD A.length 0) := by
      unfold grE
      generalize fin li dr fa (flat 0 rows) dr = s0
      rw [a.eq, hB]
      have e1 : A ++ (x.1 ++ b0 :: B) ++ Z = A ++ (x.1 ++ (b0 :: (B ++ Z))) := by simp
      rw [e1, bef_append, bef_append]
      have hb1 : (bef li dr fa A s0).length = A.length := bef_len ..
      have hb2 : (bef li dr fa x.1 (fin li dr fa A s0)).length = x.1.length := bef_len ..
      have g1 : ∀ (n : Nat) (W : List Int), (bef li dr fa A s0 ++ W).getD (A.length + n) 0 = W.getD n 0 := fun n W => by
        rw [← hb1, List.getD_eq_getElem?_getD, List.getD_eq_getElem?_getD, List.getElem?_append_right (by omega)]
        have : (bef li dr fa A s0).length + n - (bef li dr fa A s0).length = n := by omega
        rw [this]
      have g2 := g1 0
      rw [Nat.add_zero] at g2
      rw [g1, g2]
      have g3 : ∀ (W : List Int), (bef li dr fa x.1 (fin li dr fa A s0) ++ W).getD x.1.length 0 = W.getD 0 0 := fun W => by
        rw [← hb2, List.getD_eq_getElem?_getD, List.getD_eq_getElem?_getD, List.getElem?_append_right (by omega)]
        have : (bef li dr fa x.1 (fin li dr fa A s0)).length - (bef li dr fa x.1 (fin li dr fa A s0)).length = 0 := by omega
        rw [this]
      rw [g3]
      show fin li dr fa x.1 (fin li dr fa A s0) = fin li dr fa x.1 _
      congr 1
      cases x.1 with
      | nil => rfl
      | cons m Y => rfl
    obtain ⟨q1, q2⟩ := uppE li dr fa (by omega) (by omega) x.1 e _ xa hYn hxa (fun y hy => (hx y (hma y hy)).1) (by omega) he2
    rw [ebk, Int.toNat_natCast, hgr] at hfa
    have henv : (envS li fa ba (flat 0 rows)).getD (A.length + x.1.length) 0 = (envS li fa ba x.2).headD 0 := by
      have e1 : flat 0 rows = (A ++ x.1) ++ (x.2 ++ Z) := by rw [a.eq]; simp
      have e2 : A.length + x.1.length = (A ++ x.1).length := List.length_append.symm
      rw [e1, e2, getD_drop, envS_drop, envS_append li fa ba x.2 Z (fun m hm z hz => by have := (a.ok.q m hm).1; have := a.aft z hz; omega), hB]
      rfl
    rw [henv] at hfa
    have hst2 := env_stop li dr fa ba (i : Int) hli x.2 Z (finL li dr x.1 e xa) xb (fun m hm => (a.ok.q m hm).1) hxb (fun y hy => ⟨(hx y (hmb y hy)).1, hs y (hmb y hy)⟩) q1 hin.2 (by omega)
    rcases hst2 with ⟨h, _⟩ | h
    · omega
    · rw [sz_mem] at h
      exact of_decide_eq_true h
  · have hge := open_ge li dr x.2 Z (finL li dr x.1 e xa) xb hBn hxb (fun y hy => hs y (hmb y hy))
    have hlb : (rollL li dr (x.2 ++ Z) (finL li dr x.1 e xa) xb).length = xb.length := rollL_len li dr _ _ _ (by rw [List.length_append]; omega)
    refine ⟨fun z => ?_, ?_⟩
    · rcases List.mem_append.mp z with z | z
      · exact hY0 z
      · have := hge 0 z
        omega
    · generalize rollL li dr (x.2 ++ Z) (finL li dr x.1 e xa) xb = R2 at hge hlb
      cases h : R2.getLast? with
      | none =>
        have := List.getLast?_eq_none_iff.mp h
        rw [this] at hlb
        simp at hlb
        omega
      | some l =>
        refine ⟨l, ?_, hge l (List.mem_of_getLast? h)⟩
        rw [List.getLast?_append, h]; rfl
end Cr
/-! slopes of metres -/
namespace Cr
open PySem L2
theorem flat_slope : ∀ (rows : List Rw) (b : Int), (∀ r ∈ rows, okRow r) → ∀ m ∈ flat b rows, -100 ≤ m.b ∧ m.b ≤ 100
  | [], b, _, m, hm => by cases hm
  | r :: rs, b, h, m, hm => by
    rcases List.mem_append.mp hm with hm | hm
    · rw [List.eq_of_mem_replicate hm]
      have := (h r (List.mem_cons_self ..)).2.2
      exact this
    · exact flat_slope rs _ (fun x hx => h x (List.mem_cons_of_mem _ hx)) m hm
end Cr
/-! energies are not too great; least ones are below greatest ones -/
namespace Cr
open PySem L2
theorem aft_ub (m : Mt) (li dr e f : Int) (hm : -100 ≤ m.b) (hf : 0 ≤ f) (C : Int) (hl : li ≤ C) (hd : dr ≤ C) (hC : 0 ≤ C) (he : e ≤ C) : aft m li dr e f none ≤ C + 196200 := by
  unfold aft
  split
  · omega
  · split
    · omega
    · split
      · omega
      · rename_i h1 h2 h3
        have : ¬ m.a = ("brake" : Str) := fun z => h2 ⟨z, rfl⟩
        rw [if_neg this]
        omega
theorem bef_le (li dr f : Int) (hf : 0 ≤ f) : ∀ (ms : List Mt) (e C : Int), (∀ m ∈ ms, -100 ≤ m.b) → li ≤ C → dr ≤ C → 0 ≤ C → e ≤ C → (∀ y ∈ bef li dr f ms e, y ≤ C + 196200 * ms.length) ∧ fin li dr f ms e ≤ C + 196200 * ms.length
  | [], e, C, _, _, _, _, he => ⟨(fun y hy => by cases hy), by simpa [fin] using he⟩
  | m :: ms, e, C, hm, hl, hd, hC, he => by
    obtain ⟨i1, i2⟩ := bef_le li dr f hf ms (aft m li dr e f none) (C + 196200) (fun x hx => hm x (List.mem_cons_of_mem _ hx)) (by omega) (by omega) (by omega) (aft_ub m li dr e f (hm m (List.mem_cons_self ..)) hf C hl hd hC he)
    have e1 : ((m :: ms).length : Int) = ms.length + 1 := by rw [List.length_cons]; omega
    rw [e1]
    refine ⟨fun y hy => ?_, ?_⟩
    · rcases List.mem_cons.mp hy with rfl | hy
      · omega
      · have := i1 y hy
        omega
    · show fin li dr f ms _ ≤ _
      omega
theorem grE_le {rows : List Rw} (g : Good rows) (li dr f : Int) (hf : 0 ≤ f) (h1 : 0 ≤ li ∧ li ≤ 10000000) (h2 : 0 ≤ dr ∧ dr ≤ 10000000) : ∀ y ∈ bef li dr f (flat 0 rows) (fin li dr f (flat 0 rows) dr), y ≤ 2000000000 := by
  have hlt := g.lt
  have hsl : ∀ m ∈ flat 0 rows, -100 ≤ m.b := fun m hm => (flat_slope rows 0 g.row m hm).1
  obtain ⟨_, a2⟩ := bef_le li dr f hf (flat 0 rows) dr 10000000 hsl (by omega) (by omega) (by omega) (by omega)
  obtain ⟨a3, _⟩ := bef_le li dr f hf (flat 0 rows) (fin li dr f (flat 0 rows) dr) (10000000 + 196200 * (flat 0 rows).length) hsl (by omega) (by omega) (by omega) a2
  intro y hy
  have := a3 y hy
  omega
theorem bef_mono (li dr f f' : Int) (h1 : 0 ≤ li) (h2 : 0 ≤ dr) (hf : f' ≤ f) : ∀ (ms : List Mt) (e e' : Int), 0 ≤ e → e ≤ e' → ∀ j, j < ms.length → (bef li dr f ms e).getD j 0 ≤ (bef li dr f' ms e').getD j 0
  | [], e, e', _, _, j, hj => by simp at hj
  | m :: ms, e, e', h0, h, 0, hj => h
  | m :: ms, e, e', h0, h, j + 1, hj => bef_mono li dr f f' h1 h2 hf ms _ _ (aft_nn m li dr e f none h1 h2) (aft_mono m li dr e e' f f' none none h h0 hf trivial) j (by simpa using hj)
theorem fin_brake (li dr f e : Int) (A : List Mt) (m : Mt) (hm : m.a = ("brake" : Str)) : dr ≤ fin li dr f (A ++ [m]) e := by
  have : ∀ (a b : List Mt) (e : Int), fin li dr f (a ++ b) e = fin li dr f b (fin li dr f a e) := by
    intro a
    induction a with
    | nil => intro b e; rfl
    | cons x a ih => intro b e; exact ih b _
  rw [this]
  show dr ≤ aft m li dr _ f none
  unfold aft
  simp only [hm, and_self, if_true, reduceCtorEq]
  split
  · rename_i q
    exact absurd q (by decide)
  · omega
theorem whole_last {rows : List Rw} (g : Good rows) : ∀ i, i < (bks rows).length → ∃ pre m, whole ((bks rows).take (i + 1)) = pre ++ [m] ∧ m.a = ("brake" : Str) := fun i hi => by
  have hx : (bks rows)[i]? = some (bks rows)[i] := List.getElem?_eq_getElem hi
  have ok := g.bk.2.2.2.2 i _ hx
  rcases snoc_cases (bks rows)[i].2 with q0 | ⟨q, m, q0⟩
  · exact absurd q0 ok.ne
  · refine ⟨whole ((bks rows).take i) ++ (bks rows)[i].1 ++ q, m, ?_, (ok.q m (by rw [q0]; simp)).2⟩
    rw [take_succ_g hx, whole_append, whole_cons, q0]
    simp [whole]
/-- in each metre of a block -/
theorem le_gr {rows : List Rw} (g : Good rows) (li dr fa fb : Int) (h1 : 0 ≤ li) (h2 : 0 ≤ dr) (hf : fa ≤ fb) {i : Nat} {A Z : List Mt} {x : Bk} (a : At rows i A x Z) : ∀ j, j < (x.1 ++ x.2).length →
    (bef li dr fb (x.1 ++ x.2) dr).getD j 0 ≤ (bef li dr fa (flat 0 rows) (fin li dr fa (flat 0 rows) dr)).getD (A.length + j) 0 := fun j hj => by
  have hi : i < (bks rows).length := (List.getElem?_eq_some_iff.mp a.get).1
  have hW : flat 0 rows = whole ((bks rows).take (bks rows).length) := by rw [List.take_length]; exact g.bk.1
  have hG : dr ≤ fin li dr fa (flat 0 rows) dr := by
    obtain ⟨pre, m, e, hm⟩ := whole_last g ((bks rows).length - 1) (by omega)
    have : (bks rows).length - 1 + 1 = (bks rows).length := by omega
    rw [this, ← hW] at e
    rw [e]
    exact fin_brake li dr fa dr pre m hm
  have hA : dr ≤ fin li dr fa A (fin li dr fa (flat 0 rows) dr) := by
    cases i with
    | zero =>
      have : A = [] := by rw [a.pre]; rfl
      rw [this]; exact hG
    | succ i =>
      obtain ⟨pre, m, e, hm⟩ := whole_last g i (by omega)
      rw [a.pre, e]
      exact fin_brake li dr fa _ pre m hm
  have hm := bef_mono li dr fb fa h1 h2 hf (x.1 ++ x.2) dr _ h2 hA j hj
  have e : (bef li dr fa (flat 0 rows) (fin li dr fa (flat 0 rows) dr)).getD (A.length + j) 0 = (bef li dr fa (x.1 ++ x.2) (fin li dr fa A (fin li dr fa (flat 0 rows) dr))).getD j 0 := by
    generalize fin li dr fa (flat 0 rows) dr = G
    rw [a.eq, List.append_assoc, bef_append, bef_append, List.getD_eq_getElem?_getD, List.getElem?_append_right (by rw [bef_len]; omega), bef_len, Nat.add_sub_cancel_left, List.getElem?_append_left (by rw [bef_len]; exact hj), List.getD_eq_getElem?_getD]
  rw [e]; exact hm
/-- the least energies of a block within the list -/
theorem lsts_at {rows : List Rw} (li dr fb : Int) {i : Nat} {A Z : List Mt} {x : Bk} (a : At rows i A x Z) : ∀ j, j < (x.1 ++ x.2).length → (lsts li dr fb (bks rows)).getD (A.length + j) 0 = (bef li dr fb (x.1 ++ x.2) dr).getD j 0 := fun j hj => by
  have hi : i < (bks rows).length := (List.getElem?_eq_some_iff.mp a.get).1
  have es : bks rows = (bks rows).take i ++ x :: (bks rows).drop (i + 1) := by
    have : (bks rows)[i] = x := by
      have := a.get
      rw [List.getElem?_eq_getElem hi] at this
      exact Option.some.inj this
    rw [← this, ← List.drop_eq_getElem_cons hi, List.take_append_drop]
  have hll : (lsts li dr fb ((bks rows).take i)).length = A.length := by rw [lsts_len, ← a.pre]
  have hlw : lsts li dr fb (bks rows) = lsts li dr fb ((bks rows).take i) ++ (bef li dr fb (x.1 ++ x.2) dr ++ lsts li dr fb ((bks rows).drop (i + 1))) := by
    conv => lhs; rw [es]
    rw [lsts_append]; rfl
  rw [hlw, List.getD_eq_getElem?_getD, List.getElem?_append_right (by omega), hll, List.getElem?_append_left (by rw [bef_len]; omega), List.getD_eq_getElem?_getD, Nat.add_sub_cancel_left]
end Cr
namespace Cr
open PySem L2
theorem lafter_ok (m : Mt) (d : Tr) (e f : Int) (s : Option Int) : t_law_after m d e f s = .ok (aft m d.d d.e e f s) := by
  unfold t_law_after aft
  simp only [letT]
  by_cases h1 : m.a = ("lift" : Str)
  · rw [if_pos (decide_eq_true h1), if_pos h1]
  · rw [if_neg (by rw [decide_eq_true_eq]; exact h1), if_neg h1]
    by_cases h2 : m.a = ("brake" : Str)
    · cases s with
      | none => rw [if_pos (by rw [decide_eq_true h2]; rfl), if_pos ⟨h2, rfl⟩]
      | some s =>
        rw [if_neg (by rw [decide_eq_true h2]; simp), if_pos (decide_eq_true h2), if_neg (fun z => by cases z.2), if_pos h2]
        show (Res.ok s >>= fun v22 => Res.ok (e - 1962 * m.b - f - v22)) >>= _ = _
        rw [bnd_ok, bnd_ok]
        by_cases h3 : e = 0
        · rw [if_pos h3, if_pos (by rw [decide_eq_true_eq]; exact h3)]
        · rw [if_neg h3, if_neg (by rw [decide_eq_true_eq]; exact h3)]; rfl
    · rw [if_neg (by simp [h2]), if_neg (by rw [decide_eq_true_eq]; exact h2), if_neg (fun z => h2 z.1), if_neg h2, bnd_ok, Int.sub_zero]
      by_cases h3 : e = 0
      · rw [if_pos h3, if_pos (by rw [decide_eq_true_eq]; exact h3)]
      · rw [if_neg h3, if_neg (by rw [decide_eq_true_eq]; exact h3)]
end Cr
/-! the law's own rolls -/
namespace Cr
open PySem L2
theorem lroll_fold (M : List Mt) (d : Tr) (first : Nat) (fs : List Int) (ss : List (Option Int)) (hM : 0 < M.length) (hs : fs.length ≤ ss.length)
    (F : Int → Int × List Int → Res (Int × List Int)) (hF : ∀ x s, F x s = (modT ((first : Int) + x) (M.length : Int) >>= fun v359 => idxT M v359 >>= fun v360 => idxT fs x >>= fun v361 => idxT ss x >>= fun v362 => t_law_after v360 d s.1 v361 v362 >>= fun e => appT s.2 e >>= fun f => .ok (e, f))) :
    ∀ (n k : Nat) (e : Int) (R : List Int), k + n = fs.length → R.length + n < 16777216 →
    ∃ e', foldT F (rangeI k 1 n) (e, R) = .ok (e', R ++ rollP M d.d d.e (first + k) e (List.zipWith T2.mk (fs.drop k) (ss.drop k)))
  | 0, k, e, R, hk, _ => by
    have : fs.drop k = [] := List.drop_eq_nil_iff.mpr (by omega)
    exact ⟨e, by simp [rangeI, foldT_nil, this, rollP]⟩
  | n + 1, k, e, R, hk, hz => by
    have er : rangeI k 1 (n + 1) = (k : Int) :: rangeI ((k + 1 : Nat) : Int) 1 n := by
      unfold rangeI
      rw [List.range_succ_eq_map, List.map_cons, List.map_map]
      congr 1
      simp
      intro a _
      omega
    have h1 : k < fs.length := by omega
    have h2 : k < ss.length := by omega
    have hm := Nat.mod_lt (first + k) hM
    have em : ((first : Int) + (k : Int)) % (M.length : Int) = (((first + k) % M.length : Nat) : Int) := by rw [Int.natCast_emod]; rfl
    rw [er, foldT_cons, hF, mod_ok _ _ (by omega), bnd_ok, em, idx_nat M _ hm, bnd_ok, idx_nat fs k h1, bnd_ok, idx_nat ss k h2, bnd_ok, lafter_ok, bnd_ok, app_ok _ _ (by show R.length < _; omega), bnd_ok, bnd_ok]
    have eM : M[(first + k) % M.length] = mAt M (first + k) := (mAt_get M _ hM).symm
    rw [eM, List.drop_eq_getElem_cons h1, List.drop_eq_getElem_cons h2, List.zipWith_cons_cons]
    obtain ⟨e', ih⟩ := lroll_fold M d first fs ss hM hs F hF n (k + 1) (aft (mAt M (first + k)) d.d d.e e fs[k] ss[k]) (R ++ [aft (mAt M (first + k)) d.d d.e e fs[k] ss[k]]) (by omega) (by simp; omega)
    refine ⟨e', ih.trans ?_⟩
    rw [List.append_assoc]; rfl
theorem lrolled_ok (M : List Mt) (d : Tr) (first : Nat) (e : Int) (fs : List Int) (ss : List (Option Int)) (hM : 0 < M.length) (hs : fs.length ≤ ss.length) (hz : fs.length < 16777216) : t_law_rolled M d (first : Int) e fs ss = .ok (rollP M d.d d.e first e (List.zipWith T2.mk fs ss)) := by
  unfold t_law_rolled
  rw [rng_nat _ (by omega), bnd_ok]
  obtain ⟨e', h⟩ := lroll_fold M d first fs ss hM hs _ (fun _ _ => rfl) fs.length 0 e [] (by omega) (by simp; omega)
  have er : rangeI ((0 : Nat) : Int) 1 fs.length = nis fs.length := rangeI_01 _
  rw [er, List.drop_zero, List.drop_zero, List.nil_append, Nat.add_zero] at h
  exact congrArg (fun r => r >>= fun s : Int × List Int => Res.ok s.2) h
end Cr
/-! the metres of a block, by number -/
namespace Cr
open PySem L2
theorem rangeI_append (lo : Int) (a b : Nat) : rangeI lo 1 (a + b) = rangeI lo 1 a ++ rangeI (lo + a) 1 b := by
  unfold rangeI
  rw [List.range_add, List.map_append, List.map_map]
  congr 1
  apply List.map_congr_left
  intro i _
  simp
  omega
theorem rangeI_mem {lo : Int} {n : Nat} {x : Int} (h : x ∈ rangeI lo 1 n) : ∃ k : Nat, k < n ∧ x = lo + k := by
  unfold rangeI at h
  obtain ⟨k, hk, rfl⟩ := List.mem_map.mp h
  exact ⟨k, List.mem_range.mp hk, by omega⟩
/-- where a property holds on a middle part alone -/
theorem filt_mid (A X Z : List Mt) (p : Mt → Bool) (hA : ∀ m ∈ A, p m = false) (hX : ∀ m ∈ X, p m = true) (hZ : ∀ m ∈ Z, p m = false) :
    (nis (A ++ X ++ Z).length).filter (fun i => p ((A ++ X ++ Z).getD i.toNat ⟨"", 0, 0⟩)) = rangeI A.length 1 X.length := by
  have gA : ∀ k : Nat, k < A.length → (A ++ X ++ Z).getD k ⟨"", 0, 0⟩ ∈ A := fun k hk => by
    rw [List.getD_eq_getElem?_getD, List.append_assoc, List.getElem?_append_left hk, List.getElem?_eq_getElem hk]
    exact List.getElem_mem hk
  have gX : ∀ k : Nat, k < X.length → (A ++ X ++ Z).getD (A.length + k) ⟨"", 0, 0⟩ ∈ X := fun k hk => by
    rw [List.getD_eq_getElem?_getD, List.append_assoc, List.getElem?_append_right (by omega), List.getElem?_append_left (by omega)]
    have e : A.length + k - A.length = k := by omega
    rw [e, List.getElem?_eq_getElem hk]
    exact List.getElem_mem hk
  have gZ : ∀ k : Nat, k < Z.length → (A ++ X ++ Z).getD (A.length + X.length + k) ⟨"", 0, 0⟩ ∈ Z := fun k hk => by
    rw [List.getD_eq_getElem?_getD, List.getElem?_append_right (by rw [List.length_append]; omega)]
    have e : A.length + X.length + k - (A ++ X).length = k := by rw [List.length_append]; omega
    rw [e, List.getElem?_eq_getElem hk]
    exact List.getElem_mem hk
  rw [← rangeI_01, List.length_append, List.length_append, rangeI_append, rangeI_append, List.filter_append, List.filter_append]
  have f1 : (rangeI 0 1 A.length).filter (fun i => p ((A ++ X ++ Z).getD i.toNat ⟨"", 0, 0⟩)) = [] := by
    rw [List.filter_eq_nil_iff]
    intro x hx
    obtain ⟨k, hk, rfl⟩ := rangeI_mem hx
    have e : ((0 : Int) + (k : Int)).toNat = k := by omega
    rw [e, hA _ (gA k hk)]; decide
  have f2 : (rangeI ((0 : Int) + A.length) 1 X.length).filter (fun i => p ((A ++ X ++ Z).getD i.toNat ⟨"", 0, 0⟩)) = rangeI A.length 1 X.length := by
    rw [Int.zero_add, List.filter_eq_self]
    intro x hx
    obtain ⟨k, hk, rfl⟩ := rangeI_mem hx
    have e : ((A.length : Int) + (k : Int)).toNat = A.length + k := by omega
    rw [e, hX _ (gX k hk)]
  have f3 : (rangeI ((0 : Int) + ((A.length + X.length : Nat) : Int)) 1 Z.length).filter (fun i => p ((A ++ X ++ Z).getD i.toNat ⟨"", 0, 0⟩)) = [] := by
    rw [List.filter_eq_nil_iff]
    intro x hx
    obtain ⟨k, hk, rfl⟩ := rangeI_mem hx
    have e : ((0 : Int) + ((A.length + X.length : Nat) : Int) + (k : Int)).toNat = A.length + X.length + k := by omega
    rw [e, hZ _ (gZ k hk)]; decide
  rw [f1, f2, f3, List.nil_append, List.append_nil]
theorem own_ok {rows : List Rw} (g : Good rows) {i : Nat} {A Z : List Mt} {x : Bk} (a : At rows i A x Z) (p : Int → Res Bool) (hp : ∀ k : Nat, ∀ h : k < (flat 0 rows).length, p (k : Int) = .ok (decide ((flat 0 rows)[k].c = (i : Int)))) :
    compS p (fun x => Res.ok x) (nis (flat 0 rows).length) = .ok (rangeI A.length 1 (x.1 ++ x.2).length) := by
  have hlt := g.lt
  rw [compS_all (fun i' => decide (((flat 0 rows).getD i'.toNat ⟨"", 0, 0⟩).c = (i : Int))) (fun x => x) (nis (flat 0 rows).length) (by rw [nis_len]; omega) (fun y hy => ?_) (fun _ _ _ => rfl)]
  · rw [List.map_id']
    congr 1
    rw [a.eq]
    exact filt_mid A (x.1 ++ x.2) Z (fun m => decide (m.c = (i : Int))) (fun m hm => decide_eq_false (by have := a.bef m hm; omega)) (fun m hm => decide_eq_true (a.ok.c hm)) (fun m hm => decide_eq_false (by have := a.aft m hm; omega))
  · obtain ⟨k, hk, rfl⟩ := nis_mem hy
    rw [hp k hk, Int.toNat_natCast, List.getD_eq_getElem?_getD, List.getElem?_eq_getElem hk]; rfl
theorem rangeI_0 (lo : Int) (n : Nat) (h : 0 < n) : idxT (rangeI lo 1 n) (0 : Int) = .ok lo := by
  have := rangeI_get lo 1 n 0 h
  have hl : 0 < (rangeI lo 1 n).length := by rw [rangeI_len]; exact h
  rw [List.getElem?_eq_getElem hl] at this
  have e : idxT (rangeI lo 1 n) ((0 : Nat) : Int) = _ := idx_nat _ 0 hl
  have e : idxT (rangeI lo 1 n) (0 : Int) = _ := e
  rw [e, Option.some.inj this]
  exact congrArg Res.ok (by omega)
end Cr
namespace Cr
open PySem L2
theorem brakeof_ok {rows : List Rw} (g : Good rows) {i : Nat} {A Z : List Mt} {x : Bk} (a : At rows i A x Z) : t_law_brake_of (flat 0 rows) (i : Int) = .ok ((A.length : Int) + x.1.length) := by
  have hlt := g.lt
  have hne : 0 < x.2.length := List.length_pos_iff.mpr a.ok.ne
  unfold t_law_brake_of
  rw [rng_nat _ (by omega), bnd_ok, compS_all (fun i' => decide (((flat 0 rows).getD i'.toNat ⟨"", 0, 0⟩).c = (i : Int)) && decide (((flat 0 rows).getD i'.toNat ⟨"", 0, 0⟩).a = ("brake" : Str))) (fun x => x) (nis (flat 0 rows).length) (by rw [nis_len]; omega) (fun y hy => ?_) (fun _ _ _ => rfl)]
  · have e : (nis (flat 0 rows).length).filter (fun i' => decide (((flat 0 rows).getD i'.toNat ⟨"", 0, 0⟩).c = (i : Int)) && decide (((flat 0 rows).getD i'.toNat ⟨"", 0, 0⟩).a = ("brake" : Str))) = rangeI ((A ++ x.1).length : Nat) 1 x.2.length := by
      have em : flat 0 rows = (A ++ x.1) ++ x.2 ++ Z := by rw [a.eq]; simp
      rw [em]
      refine filt_mid (A ++ x.1) x.2 Z (fun m => decide (m.c = (i : Int)) && decide (m.a = ("brake" : Str))) (fun m hm => ?_) (fun m hm => ?_) (fun m hm => ?_)
      · rcases List.mem_append.mp hm with h | h
        · have := a.bef m h
          simp
          intro z
          omega
        · have := (a.ok.p m h).2
          simp [this]
      · have := a.ok.q m hm
        simp [this.1, this.2]
      · have := a.aft m hm
        simp
        intro z
        omega
    rw [List.map_id', e, bnd_ok, rangeI_0 _ _ hne, bnd_ok, List.length_append]
    exact congrArg Res.ok (by omega)
  · obtain ⟨k, hk, rfl⟩ := nis_mem hy
    rw [idx_nat _ k hk, bnd_ok, bnd_ok, andR_ok, bnd_ok, Int.toNat_natCast, List.getD_eq_getElem?_getD, List.getElem?_eq_getElem hk]; rfl
end Cr
namespace Cr
open PySem L2
theorem saferows_ok {n : Nat} {xs : List Int} (hx : isNum n xs) (hn : 5 ≤ n) : ∃ u s b1 c b2, SafeN u s b1 c b2 ∧ t_law_safe_rows xs = .ok (safeR u s b1 c b2) := by
  have hi : ∀ i : Int, 0 ≤ i ∧ i < 5 → idxT xs i = .ok (xs.getD i.toNat 0) := fun i h => num_idx hx i (by omega)
  unfold t_law_safe_rows
  rw [hi 0 (by omega), bnd_ok, hi 1 (by omega), bnd_ok, hi 2 (by omega), bnd_ok, hi 3 (by omega), bnd_ok, hi 4 (by omega), bnd_ok]
  refine ⟨xs.getD (0 : Int).toNat 0 % 5, xs.getD (1 : Int).toNat 0 % 26, xs.getD (2 : Int).toNat 0 % 4, xs.getD (3 : Int).toNat 0 % 4, xs.getD (4 : Int).toNat 0 % 4, ⟨by omega, by omega, by omega, by omega, by omega⟩, rfl⟩
def okSafe (d : Tr) : Prop := (1 ≤ d.a ∧ d.a ≤ 4) ∧ (0 ≤ d.b.a ∧ d.b.a < 60 ∧ d.b.a ≤ d.b.b ∧ d.b.b ≤ 118) ∧ (400000 ≤ d.c.a ∧ d.c.a ≤ d.c.b ∧ d.c.b ≤ 480000) ∧ (40000 ≤ d.d ∧ d.d ≤ 44100) ∧ (20000 ≤ d.e ∧ d.e ≤ 24100)
theorem safetr_ok {n : Nat} {xs : List Int} (hx : isNum n xs) (hn : 12 ≤ n) : ∃ d : Tr, t_law_safe_train xs = .ok d ∧ okSafe d := by
  have hi : ∀ i : Int, 0 ≤ i ∧ i < 12 → idxT xs i = .ok (xs.getD i.toNat 0) := fun i h => num_idx hx i (by omega)
  unfold t_law_safe_train
  rw [hi 5 (by omega), bnd_ok, hi 6 (by omega), bnd_ok, hi 7 (by omega), bnd_ok, hi 8 (by omega), bnd_ok, hi 9 (by omega), bnd_ok, hi 10 (by omega), bnd_ok, hi 11 (by omega), bnd_ok]
  refine ⟨_, rfl, ?_⟩
  unfold okSafe
  have := num_rng hx (6 : Int).toNat
  have := num_rng hx (9 : Int).toNat
  have := num_rng hx (10 : Int).toNat
  have := num_rng hx (11 : Int).toNat
  simp only []
  omega
theorem okSafe.tr {d : Tr} (h : okSafe d) : okTr d := by
  unfold okSafe at h
  unfold okTr okTrain
  omega
theorem okSafe.t {d : Tr} (h : okSafe d) : SafeT d.a d.b.a d.b.b d.c.a d.d d.e := by
  unfold okSafe at h
  exact ⟨by omega, by omega, by omega, by omega, by omega⟩
end Cr
/-! drawn trains -/
namespace Cr
open PySem L2
theorem mkTrain_ok (d : Tr) (h : okTr d) : t_law_train d = .ok (trO d) := by
  unfold t_law_train
  rw [(train_ok _ _ _ _ _).1 h]; rfl
theorem drawnTr_ok {n : Nat} {xs : List Int} (hx : isNum n xs) (hn : 7 ≤ n) : ∃ d : Tr, t_law_drawn_train xs = .ok d ∧ okTr d := by
  have hi : ∀ i : Int, 0 ≤ i ∧ i < 7 → idxT xs i = .ok (xs.getD i.toNat 0) := fun i h => num_idx hx i (by omega)
  unfold t_law_drawn_train
  rw [hi 0 (by omega), bnd_ok, hi 1 (by omega), bnd_ok, hi 2 (by omega), bnd_ok, hi 3 (by omega), bnd_ok, hi 4 (by omega), bnd_ok, hi 5 (by omega), bnd_ok, hi 6 (by omega), bnd_ok]
  refine ⟨_, rfl, ?_⟩
  unfold okTr okTrain
  have := num_rng hx (1 : Int).toNat
  have := num_rng hx (4 : Int).toNat
  have := num_rng hx (5 : Int).toNat
  have := num_rng hx (6 : Int).toNat
  simp only []
  omega
end Cr
/-! drawn layouts -/
namespace Cr
open PySem L2
structure Seg (nb : Nat) (n : Int) (rows : List Rw) : Prop where
  row : ∀ r ∈ rows, okRow r
  len : sumLn rows ≤ n
  brk : (rows.filter isBr).length = nb
theorem Seg.mono {nb : Nat} {n n' : Int} {rows : List Rw} (h : Seg nb n rows) (hn : n ≤ n') : Seg nb n' rows := ⟨h.row, by have := h.len; omega, h.brk⟩
theorem Seg.size {nb : Nat} {n : Int} {rows : List Rw} (h : Seg nb n rows) : (rows.length : Int) ≤ n := by have := sumLn_nn rows h.row; have := h.len; omega
theorem Seg.ins {nb : Nat} {n : Int} {rows : List Rw} (h : Seg nb n rows) (i : Nat) (r : Rw) (ho : okRow r) : Seg (nb + if isBr r then 1 else 0) (n + r.b) (rows.take i ++ [r] ++ rows.drop i) := by
  have e := List.take_append_drop i rows
  refine ⟨fun x hx => ?_, ?_, ?_⟩
  · simp only [List.mem_append, List.mem_singleton] at hx
    rcases hx with (hx | rfl) | hx
    · exact h.row x (List.mem_of_mem_take hx)
    · exact ho
    · exact h.row x (List.mem_of_mem_drop hx)
  · have h1 := h.len
    rw [← e, sumLn_append] at h1
    rw [sumLn_append, sumLn_append, sumLn_one]
    omega
  · have h1 := h.brk
    rw [← e, List.filter_append, List.length_append] at h1
    rw [List.filter_append, List.filter_append, List.length_append, List.length_append]
    by_cases hb : isBr r = true
    · rw [if_pos hb]; simp [List.filter_cons, hb]; omega
    · rw [if_neg hb]; simp [List.filter_cons, hb]; omega
theorem Seg.snoc {nb : Nat} {n : Int} {rows : List Rw} (h : Seg nb n rows) (r : Rw) (ho : okRow r) : Seg (nb + if isBr r then 1 else 0) (n + r.b) (rows ++ [r]) := by
  have := h.ins rows.length r ho
  rw [List.take_length, List.drop_length, List.append_nil] at this
  exact this
theorem sumH_ins (rows : List Rw) (i : Nat) (r : Rw) : sumH (rows.take i ++ [r] ++ rows.drop i) = sumH rows + r.b * r.c := by
  have e : sumH rows = sumH (rows.take i) + sumH (rows.drop i) := by rw [← sumH_append, List.take_append_drop]
  rw [sumH_append, sumH_append, sumH_one, e]
  omega
theorem lastBr_ins (rows : List Rw) (i : Nat) (r : Rw) (h : lastBr rows) (hi : i < rows.length) : lastBr (rows.take i ++ [r] ++ rows.drop i) := by
  obtain ⟨pre, x, rfl, hx⟩ := h
  rw [List.length_append, List.length_singleton] at hi
  refine ⟨pre.take i ++ [r] ++ pre.drop i, x, ?_, hx⟩
  rw [List.take_append_of_le_length (by omega), List.drop_append_of_le_length (by omega)]
  simp
theorem ins_ok {α : Type} (xs : List α) (i : Int) (x : α) (hi : 0 ≤ i ∧ i < 1000) (h : xs.length < 16777216) : insT xs i x = .ok (xs.take i.toNat ++ [x] ++ xs.drop i.toNat) := by
  unfold insT
  rw [if_pos ⟨h, hi.1, by omega⟩]
theorem kind3 (d : Int) : ∃ k : Str, kindB k = true ∧ decide (k = ("brake" : Str)) = false ∧ idxT [("coast" : Str), ("coast" : Str), ("lift" : Str)] (d % 3) = .ok k := by
  have : d % 3 = 0 ∨ d % 3 = 1 ∨ d % 3 = 2 := by omega
  rcases this with h | h | h <;> rw [h]
  · exact ⟨"coast", by decide, by decide, rfl⟩
  · exact ⟨"coast", by decide, by decide, rfl⟩
  · exact ⟨"lift", by decide, by decide, rfl⟩
theorem idx5 (d : Int) : ∃ w : Int, (w = 1 ∨ w = 300) ∧ idxT [(1 : Int), 1, 1, 1, 300] (d % 5) = .ok w := by
  have : d % 5 = 0 ∨ d % 5 = 1 ∨ d % 5 = 2 ∨ d % 5 = 3 ∨ d % 5 = 4 := by omega
  rcases this with h | h | h | h | h <;> rw [h]
  · exact ⟨1, .inl rfl, rfl⟩
  · exact ⟨1, .inl rfl, rfl⟩
  · exact ⟨1, .inl rfl, rfl⟩
  · exact ⟨1, .inl rfl, rfl⟩
  · exact ⟨300, .inr rfl, rfl⟩
theorem kind2 (b : Bool) (d : Int) : ∃ k1 k : Str, kindB k = true ∧ decide (k = ("brake" : Str)) = false ∧ idxT [("coast" : Str), ("lift" : Str)] (if b = true then (1 : Int) else 0) = .ok k1 ∧ idxT [k1, ("coast" : Str)] (d % 2) = .ok k := by
  have : d % 2 = 0 ∨ d % 2 = 1 := by omega
  cases b <;> rcases this with h | h <;> rw [h]
  · exact ⟨"coast", "coast", by decide, by decide, rfl, rfl⟩
  · exact ⟨"coast", "coast", by decide, by decide, rfl, rfl⟩
  · exact ⟨"lift", "lift", by decide, by decide, rfl, rfl⟩
  · exact ⟨"lift", "coast", by decide, by decide, rfl, rfl⟩
/-- the rows while they are drawn -/
theorem segs_ok {n : Nat} {xs : List Int} (hx : isNum n xs) (hn : 30 ≤ n) : ∃ rows : List Rw, t_law_drawn_segments xs 5 = .ok rows ∧ (∃ nb, (nb = 2 ∨ nb = 3) ∧ Seg nb 400 rows) ∧ lastBr rows := by
  have hi : ∀ i : Int, 0 ≤ i ∧ i < 30 → idxT xs i = .ok (xs.getD i.toNat 0) := fun i h => num_idx hx i (by omega)
  unfold t_law_drawn_segments
  rw [hi 0 (by omega), bnd_ok]
  obtain ⟨nb, hnb, hcnt⟩ : ∃ nb : Nat, (nb = 2 ∨ nb = 3) ∧ (2 : Int) + xs.getD (0 : Int).toNat 0 % 2 = (nb : Int) := ⟨((2 : Int) + xs.getD (0 : Int).toNat 0 % 2).toNat, by omega, by omega⟩
  rw [hcnt, rng_nat nb (by omega), bnd_ok]
  refine fold_nis (C := fun r => ∃ rows : List Rw, r = .ok rows ∧ (∃ nb, (nb = 2 ∨ nb = 3) ∧ Seg nb 400 rows) ∧ lastBr rows) (fun (j : Nat) (s : List Rw × Int) => Seg j (16 * (j : Int)) s.1 ∧ s.2 = sumH s.1 ∧ (0 < j → lastBr s.1)) ⟨⟨(fun r h => by cases h), (by decide), rfl⟩, rfl, (fun h => by omega)⟩ (fun j hj s hI => ?_) (fun s hI => ?_)
  · obtain ⟨h1, h2, _⟩ := hI
    rw [hi (1 + (j : Int)) (by omega), bnd_ok]
    have r1 := num_rng hx (1 + (j : Int)).toNat
    generalize xs.getD (1 + (j : Int)).toNat 0 = d1 at r1 ⊢
    rw [rng_ok _ (by omega) (by omega), bnd_ok]
    refine fold_nis (C := fun r => ∃ s' : List Rw × Int, r = .ok s' ∧ Seg (j + 1) (16 * (j + 1 : Nat)) s'.1 ∧ s'.2 = sumH s'.1 ∧ (0 < j + 1 → lastBr s'.1)) (fun (k : Nat) (s' : List Rw × Int) => Seg j (16 * (j : Int) + 5 * (k : Int)) s'.1 ∧ s'.2 = sumH s'.1) ⟨h1.mono (by omega), h2⟩ (fun k hk s' hI => ?_) (fun s' hI => ?_)
    · obtain ⟨g1, g2⟩ := hI
      rw [hi (4 + 3 * (j : Int) + k) (by omega), bnd_ok]
      have r2 := num_rng hx (4 + 3 * (j : Int) + k).toNat
      generalize xs.getD (4 + 3 * (j : Int) + k).toNat 0 = d at r2 ⊢
      obtain ⟨kd, k1, k2, k3⟩ := kind3 d
      rw [k3, bnd_ok]
      simp only [letT]
      rw [mod_ok _ _ (by omega), bnd_ok]
      have sz := g1.size
      rw [app_ok _ _ (by omega), bnd_ok, mul_l _ _ (by omega), bnd_ok]
      refine ⟨_, rfl, ?_, ?_⟩
      · have := g1.snoc ⟨kd, 1 + d / 200 % 5, d / 3 % 61 - 30⟩ ⟨k1, by simp only []; omega, by simp only []; omega⟩
        have hb : isBr ⟨kd, 1 + d / 200 % 5, d / 3 % 61 - 30⟩ = false := k2
        rw [hb] at this
        exact this.mono (by simp only []; omega)
      · show s'.2 + _ = _
        rw [sumH_append, sumH_one, g2]
    · obtain ⟨g1, g2⟩ := hI
      have r2 := num_rng hx (17 + (j : Int)).toNat
      have r3 := num_rng hx (14 + (j : Int)).toNat
      rw [hi (17 + (j : Int)) (by omega), bnd_ok, hi (14 + (j : Int)) (by omega), bnd_ok]
      generalize xs.getD (17 + (j : Int)).toNat 0 = d2 at r2 ⊢
      generalize xs.getD (14 + (j : Int)).toNat 0 = d3 at r3 ⊢
      have sz := g1.size
      rw [app_ok _ _ (by omega), bnd_ok, idx_last, bnd_ok, mul_l _ _ (by simp only []; omega), bnd_ok]
      refine ⟨_, rfl, ?_, ?_, fun _ => ⟨s'.1, _, rfl, rfl⟩⟩
      · have := g1.snoc ⟨"brake", 1 + d3 % 6, d2 % 5 - 2⟩ ⟨kb_brake, by simp only []; omega, by simp only []; omega⟩
        have hb : isBr ⟨"brake", 1 + d3 % 6, d2 % 5 - 2⟩ = true := by unfold isBr; exact decide_eq_true rfl
        rw [hb] at this
        exact this.mono (by simp only []; omega)
      · show s'.2 + _ = _
        rw [sumH_append, sumH_one, g2]
  · obtain ⟨g1, g2, g3⟩ := hI
    have g3 := g3 (by omega)
    have r1 := num_rng hx 20
    have r2 := num_rng hx 22
    rw [hi 20 (by omega), bnd_ok]
    have sz := g1.size
    have hpos : 0 < s.1.length := by
      obtain ⟨p, r, e, _⟩ := g3
      rw [e]; simp
    rw [mod_ok _ _ (by omega), bnd_ok, hi 22 (by omega), bnd_ok]
    obtain ⟨w, hw, ew⟩ := idx5 (xs.getD (22 : Int).toNat 0)
    rw [ew, bnd_ok]
    have hm : 0 ≤ xs.getD (20 : Int).toNat 0 % (s.1.length : Int) ∧ xs.getD (20 : Int).toNat 0 % (s.1.length : Int) < (s.1.length : Int) := ⟨Int.emod_nonneg _ (by omega), Int.emod_lt_of_pos _ (by omega)⟩
    generalize xs.getD (20 : Int).toNat 0 % (s.1.length : Int) = at_ at hm ⊢
    rw [ins_ok _ _ _ (by omega) (by omega), bnd_ok]
    simp only [letT]
    rw [rng_ok 40 (by omega) (by omega), bnd_ok]
    have hS := g1.ins at_.toNat ⟨"coast", w, 0⟩ ⟨kb_coast, by simp only []; omega, by simp only []; omega⟩
    have hb : isBr ⟨"coast", w, 0⟩ = false := nb_coast w 0
    rw [hb] at hS
    have hS := hS.mono (n' := 16 * nb + 300) (by simp only []; omega)
    have hL := lastBr_ins s.1 at_.toNat ⟨"coast", w, 0⟩ g3 (by omega)
    generalize s.1.take at_.toNat ++ [(⟨"coast", w, 0⟩ : Rw)] ++ s.1.drop at_.toNat = R at hS hL ⊢
    refine fold_nis (C := fun r => ∃ rows : List Rw, r = .ok rows ∧ (∃ nb, (nb = 2 ∨ nb = 3) ∧ Seg nb 400 rows) ∧ lastBr rows) (fun k (s' : List Rw × Int) => Seg nb (16 * nb + 300 + k) s'.1 ∧ lastBr s'.1) ⟨hS.mono (by omega), hL⟩ (fun k hk s' hI => ?_) (fun s' hI => ⟨_, rfl, ⟨nb, hnb, hI.1.mono (by omega)⟩, hI.2⟩)
    obtain ⟨f1, f2⟩ := hI
    have sz := f1.size
    by_cases hz : s'.2 = 0
    · rw [if_neg (by simp [hz])]
      exact ⟨_, rfl, f1.mono (by omega), f2⟩
    · rw [if_pos (by simp [hz])]
      obtain ⟨q1, q, e1, e2, e3, e4⟩ := kind2 (decide ((0 : Int) < max (-90) (min 90 s'.2))) (xs.getD (21 : Int).toNat 0)
      rw [e3, bnd_ok, hi 21 (by omega), bnd_ok, e4, bnd_ok, ins0_ok _ _ (by omega), bnd_ok]
      refine ⟨_, rfl, ?_, ?_⟩
      · have := f1.ins 0 ⟨q, 1, max (-90) (min 90 s'.2)⟩ ⟨e1, by simp only []; omega, by simp only []; omega⟩
        have hb : isBr ⟨q, 1, max (-90) (min 90 s'.2)⟩ = false := e2
        rw [hb] at this
        exact this.mono (by simp only []; omega)
      · obtain ⟨p, r, e, hr⟩ := f2
        exact ⟨⟨q, 1, max (-90) (min 90 s'.2)⟩ :: p, r, by simp [e], hr⟩
theorem seg_default : Good [(⟨"lift", 6, 25⟩ : Rw), ⟨"coast", 5, -30⟩, ⟨"brake", 3, 0⟩, ⟨"coast", 3, 0⟩, ⟨"brake", 4, 0⟩] :=
  ⟨by decide, by decide, by decide, ⟨[⟨"lift", 6, 25⟩, ⟨"coast", 5, -30⟩, ⟨"brake", 3, 0⟩, ⟨"coast", 3, 0⟩], ⟨"brake", 4, 0⟩, rfl, rfl⟩, by decide⟩
theorem drawn_ok {n : Nat} {xs : List Int} (hx : isNum n xs) (hn : 30 ≤ n) : ∃ rows : List Rw, t_law_drawn_layout xs = .ok rows ∧ Good rows ∧ sumLn rows ≤ 400 ∧ (rows.filter isBr).length ≤ 3 := by
  obtain ⟨rows, e, ⟨nb, hnb, hS⟩, hL⟩ := segs_ok hx hn
  have sz := hS.size
  unfold t_law_drawn_layout
  have e : t_law_drawn_segments xs (5 : Int) = .ok rows := e
  rw [e, bnd_ok, compS_allm (fun x : Rw => x.b * x.c) rows (by omega) (fun x hx => by
    have := (hS.row x hx).2.1
    rw [mul_l _ _ (by omega)]; rfl), bnd_ok]
  have e2 : (rows.map fun x : Rw => x.b * x.c).sum = sumH rows := rfl
  rw [e2]
  by_cases h : sumH rows = 0
  · rw [if_neg (by simp [h]), bnd_ok]
    exact ⟨rows, rfl, ⟨hS.row, by have := hS.len; omega, h, hL, by rw [hS.brk]; omega⟩, hS.len, by rw [hS.brk]; omega⟩
  · rw [if_pos (by simp [h])]
    exact ⟨_, rfl, seg_default, by decide, by decide⟩
end Cr
namespace Cr
open PySem L2
theorem mkLay_ok {rows : List Rw} (g : Good rows) : t_law_layout rows = .ok (layO rows) := by
  have := g.size
  unfold t_law_layout
  rw [comp_id rows (by omega), bnd_ok, (layout_ok rows (by omega)).1 g]; rfl
end Cr
namespace Cr
open PySem L2
def raised (d : Tr) : Tr := ⟨1, d.b, ⟨d.c.b + 400000, d.c.b + 500000⟩, d.d, d.e⟩
theorem drawnTr_ok2 {n : Nat} {xs : List Int} (hx : isNum n xs) (hn : 7 ≤ n) : ∃ d : Tr, t_law_drawn_train xs = .ok d ∧ okTr (raised d) := by
  have hi : ∀ i : Int, 0 ≤ i ∧ i < 7 → idxT xs i = .ok (xs.getD i.toNat 0) := fun i h => num_idx hx i (by omega)
  unfold t_law_drawn_train
  rw [hi 0 (by omega), bnd_ok, hi 1 (by omega), bnd_ok, hi 2 (by omega), bnd_ok, hi 3 (by omega), bnd_ok, hi 4 (by omega), bnd_ok, hi 5 (by omega), bnd_ok, hi 6 (by omega), bnd_ok]
  refine ⟨_, rfl, ?_⟩
  unfold raised okTr okTrain
  have := num_rng hx (1 : Int).toNat
  have := num_rng hx (4 : Int).toNat
  have := num_rng hx (5 : Int).toNat
  have := num_rng hx (6 : Int).toNat
  simp only []
  omega
theorem cutG_to {α : Type} (xs : List α) (n : Nat) (h : n ≤ xs.length) : cutG xs none (some (n : Int)) = xs.take n := by
  unfold cutG
  rw [HT.sIx_none, List.drop_zero, Nat.sub_zero, HT.sIx_nat, Nat.min_eq_left h]
theorem cutG_from {α : Type} (xs : List α) (n : Nat) (h : n ≤ xs.length) : cutG xs (some (n : Int)) none = xs.drop n := by
  unfold cutG
  rw [HT.sIx_none, HT.sIx_nat, Nat.min_eq_left h]
  exact List.take_of_length_le (by rw [List.length_drop]; exact Nat.le_refl _)
theorem k16_law (ns : List Int) : t_law ⟨ns⟩ = .ok true := by
  obtain ⟨c0, hc0, e0⟩ := cell_ok ns 0
  obtain ⟨zs, hz, ed⟩ := draws_ok c0 60 (by decide)
  have e0 : t_law_cell ⟨ns⟩ (0 : Int) = .ok c0 := e0
  have ed : t_law_draws c0 (60 : Int) = .ok zs := ed
  have hi : ∀ i : Int, 0 ≤ i ∧ i < 60 → idxT zs i = .ok (zs.getD i.toNat 0) := fun i h => num_idx hz i h
  obtain ⟨u, s, b1, c, b2, hs, esr⟩ := saferows_ok hz (by omega)
  obtain ⟨f, est, hf⟩ := safetr_ok hz (by omega)
  have gs := safe_good hs
  obtain ⟨d0, et, hd0⟩ := drawnTr_ok2 hz (by omega)
  obtain ⟨rows0, er, g0, hl0, hb0⟩ := drawn_ok hz (by omega)
  unfold t_law
  rw [e0, bnd_ok, ed, bnd_ok, esr, bnd_ok, est, bnd_ok, hi 20 (by omega), bnd_ok]
  obtain ⟨rows, d, hrd, g, hd, hq⟩ : ∃ (rows : List Rw) (d : Tr), ((if (decide ((zs.getD (20 : Int).toNat 0 % (4 : Int)) = (0 : Int))) = true then
 ((t_law_drawn_layout zs) >>= fun rows475 =>
 ((t_law_drawn_train zs) >>= fun data476 =>
 (letT (⟨data476.a, data476.b, (⟨(data476.c.b + (400000 : Int)), (data476.c.b + (500000 : Int))⟩ : (T2 Int Int)), data476.d, data476.e⟩ : (R5 Int (T2 Int Int) (T2 Int Int) Int Int)) fun data477 =>
 (letT (⟨(1 : Int), data477.b, data477.c, data477.d, data477.e⟩ : (R5 Int (T2 Int Int) (T2 Int Int) Int Int)) fun data478 =>
 (.ok (rows475, data478))))))
 else (.ok (safeR u s b1 c b2, f)) : Res ((List (T3 Str Int Int)) × (R5 Int (T2 Int Int) (T2 Int Int) Int Int)))) = .ok (rows, d) ∧ Good rows ∧ okTr d ∧ (fauP rows d.a d.b.a d.b.b d.c.a d.d d.e ≠ [] → decide (zs.getD (20 : Int).toNat 0 % 4 = 0) = true) := by
    by_cases q : zs.getD (20 : Int).toNat 0 % 4 = 0
    · refine ⟨rows0, raised d0, ?_, g0, hd0, fun _ => decide_eq_true q⟩
      rw [if_pos (decide_eq_true q), er, bnd_ok, et, bnd_ok]
      rfl
    · refine ⟨_, f, ?_, gs, hf.tr, fun z => absurd (safe_none hs hf.t) z⟩
      rw [if_neg (by rw [decide_eq_true_eq]; exact q)]
  refine stp hrd ?_
  have hd' := hd
  unfold okTr okTrain at hd'
  have hlt := g.lt
  have hflen := g.flen
  have hpos := g.pos
  have hF : fauP rows (trO d).length (trO d).friction.a (trO d).friction.b (trO d).brake.a (trO d).lift (trO d).drive = fauP rows d.a d.b.a d.b.b d.c.a d.d d.e := rfl
  show (t_law_metres rows >>= fun metres479 => t_law_layout rows >>= fun layout480 => t_law_train d >>= _) = _
  rw [mets_ok rows g.nn (by omega), bnd_ok, mkLay_ok g, bnd_ok, mkTrain_ok d hd, bnd_ok, faults_ok g (trO d) (by show 0 ≤ d.d; omega) (by show 0 ≤ d.e; omega), bnd_ok, hF]
  by_cases hn : fauP rows d.a d.b.a d.b.b d.c.a d.d d.e = []
  · rw [hn, if_neg (by decide), greatest_ok g (trO d) (by show 0 ≤ d.d; omega) (by show 0 ≤ d.e; omega), bnd_ok]
    obtain ⟨pre, m, hpm, hm1, hm2⟩ := g.lastm
    have hlast : idxT (flat 0 rows) (-1) = .ok m := by rw [hpm]; exact idx_last pre m
    have eb : m.c + 1 = ((bks rows).length : Int) := by omega
    obtain ⟨k1, k2, k3, k4, k5⟩ := g.bk
    rw [hlast, bnd_ok, eb, rng_nat _ (by omega), bnd_ok]
    refine forS_bnd (C := fun r => r = .ok true) (fun _ s => s = d) rfl (fun j x sd hj hsd => ?_) (fun sd _ => rfl)
    subst hsd
    have hjl : j < (bks rows).length := by
      have := (List.getElem?_eq_some_iff.mp hj).1
      rwa [nis_len] at this
    have hxj : x = (j : Int) := by
      obtain ⟨h1, h2⟩ := List.getElem?_eq_some_iff.mp hj
      rw [← h2, nis_get]
    subst hxj
    obtain ⟨A, X, Z, a⟩ := g.at j hjl
    have hin := a.ins
    have hXl : (X.1 ++ X.2).length = X.1.length + X.2.length := List.length_append
    refine ⟨sd, ?_, rfl⟩
    rw [rng_nat _ (by omega), bnd_ok, own_ok g a _ (fun k hk => by rw [idx_nat _ k hk]; rfl), bnd_ok, brakeof_ok g a, bnd_ok, rangeI_0 _ _ (by omega), bnd_ok, rangeI_len, rng_nat _ (by omega), bnd_ok]
    have hw1 : 0 < sd.b.b - sd.b.a + 1 := by omega
    have hw2 : 0 < sd.c.b - sd.c.a + 1 := by omega
    have h12 : j < 12 := by have := g.bk.2.2.2.1; omega
    rw [comp_nis (fun q => sd.b.a + zs.getD ((7 * (j : Int) + (q : Int)) % 60).toNat 0 % (sd.b.b - sd.b.a + 1)) _ (by omega) (fun q hq => by
      rw [hi ((7 * (j : Int) + (q : Int)) % 60) (by omega), bnd_ok, mod_ok _ _ hw1, bnd_ok]), bnd_ok, bnd_ok]
    rw [comp_nis (fun q => some (sd.c.a + zs.getD ((5 * (j : Int) + (q : Int)) % 60).toNat 0 % (sd.c.b - sd.c.a + 1))) _ (by omega) (fun q hq => by
      rw [hi ((5 * (j : Int) + (q : Int)) % 60) (by omega), bnd_ok, mod_ok _ _ hw2, bnd_ok]), bnd_ok, bnd_ok]
    -- the three energies
    have hXp : 0 < (X.1 ++ X.2).length := by omega
    have hGe : sd.e ≤ (grE rows sd.d sd.e sd.b.a).getD A.length 0 := by
      have := le_gr g sd.d sd.e sd.b.a sd.b.a (by omega) (by omega) (Int.le_refl _) a 0 hXp
      rw [bef_get0 _ _ _ _ _ hXp] at this
      exact this
    have hGu : (grE rows sd.d sd.e sd.b.a).getD A.length 0 ≤ 2000000000 := grE_mem rows sd.d sd.e sd.b.a A.length 2000000000 (by omega) (grE_le g sd.d sd.e sd.b.a (by omega) (by omega) (by omega))
    have hGi : idxT (grE rows sd.d sd.e sd.b.a) (A.length : Int) = .ok ((grE rows sd.d sd.e sd.b.a).getD A.length 0) := by
      have hl : (grE rows sd.d sd.e sd.b.a).length = (flat 0 rows).length := bef_len ..
      exact idx_getD _ 0 _ (by have := a.eq; have : (flat 0 rows).length = A.length + (X.1 ++ X.2).length + Z.length := by rw [a.eq]; simp; omega
                               omega)
    have hgr : idxT (bef (trO sd).lift (trO sd).drive (trO sd).friction.a (flat 0 rows) (fin (trO sd).lift (trO sd).drive (trO sd).friction.a (flat 0 rows) (trO sd).drive)) (A.length : Int) = .ok ((grE rows sd.d sd.e sd.b.a).getD A.length 0) := hGi
    have hzj : idxT zs (j : Int) = .ok (zs.getD j 0) := hi (j : Int) (by omega)
    have hfl : (flat 0 rows).length = A.length + (X.1 ++ X.2).length + Z.length := by rw [a.eq]; simp; omega
    rw [hgr, bnd_ok, bnd_ok, hgr, bnd_ok, hzj, bnd_ok, mul_r _ _ (by omega), bnd_ok]
    have hes : ∀ e ∈ ([sd.e, (grE rows sd.d sd.e sd.b.a).getD A.length 0, sd.e + ((grE rows sd.d sd.e sd.b.a).getD A.length 0 - sd.e) * (zs.getD j 0 % 100) / 100] : List Int), sd.e ≤ e ∧ e ≤ (grE rows sd.d sd.e sd.b.a).getD A.length 0 := by
      generalize (grE rows sd.d sd.e sd.b.a).getD A.length 0 = G at hGe
      have hr : 0 ≤ zs.getD j 0 % 100 ∧ zs.getD j 0 % 100 < 100 := by omega
      have p1 : 0 ≤ (G - sd.e) * (zs.getD j 0 % 100) := Int.mul_nonneg (by omega) hr.1
      have p2 : (G - sd.e) * (zs.getD j 0 % 100) ≤ (G - sd.e) * 100 := Int.mul_le_mul_of_nonneg_left (by omega) (by omega)
      intro e he
      rcases List.mem_cons.mp he with rfl | he
      · omega
      · rcases List.mem_cons.mp he with rfl | he
        · omega
        · rcases List.mem_cons.mp he with rfl | he
          · omega
          · cases he
    refine forS_bnd (C := fun r => r = (Res.ok (Fl.nxt sd) : Res (Fl Bool Tr))) (fun _ s => s = sd) rfl (fun q e s' hq hs' => ?_) (fun s' hs' => by rw [hs'])
    subst hs'
    refine ⟨s', ?_, rfl⟩
    obtain ⟨he1, he2⟩ := hes e (List.mem_of_getElem? hq)
    generalize hfs : (List.range (X.1 ++ X.2).length).map (fun q : Nat => s'.b.a + zs.getD ((7 * (j : Int) + (q : Int)) % 60).toNat 0 % (s'.b.b - s'.b.a + 1)) = fs
    generalize hss : (List.range (X.1 ++ X.2).length).map (fun q : Nat => some (s'.c.a + zs.getD ((5 * (j : Int) + (q : Int)) % 60).toNat 0 % (s'.c.b - s'.c.a + 1))) = ss
    have lf : fs.length = (X.1 ++ X.2).length := by rw [← hfs]; simp
    have ls : ss.length = (X.1 ++ X.2).length := by rw [← hss]; simp
    have pf : ∀ y ∈ fs, s'.b.a ≤ y ∧ y ≤ s'.b.b := fun y hy => by
      rw [← hfs] at hy
      obtain ⟨q, _, rfl⟩ := List.mem_map.mp hy
      have h1 := Int.emod_nonneg (zs.getD ((7 * (j : Int) + (q : Int)) % 60).toNat 0) (by omega : s'.b.b - s'.b.a + 1 ≠ 0)
      have h2 := Int.emod_lt_of_pos (zs.getD ((7 * (j : Int) + (q : Int)) % 60).toNat 0) hw1
      omega
    have ps : ∀ y ∈ ss, ∃ s, y = some s ∧ s'.c.a ≤ s := fun y hy => by
      rw [← hss] at hy
      obtain ⟨q, _, rfl⟩ := List.mem_map.mp hy
      have h1 := Int.emod_nonneg (zs.getD ((5 * (j : Int) + (q : Int)) % 60).toNat 0) (by omega : s'.c.b - s'.c.a + 1 ≠ 0)
      exact ⟨_, rfl, by omega⟩
    have eM : (flat 0 rows).drop A.length = (X.1 ++ X.2) ++ Z := by rw [a.eq, List.append_assoc, List.drop_left]
    have ln : ((rangeI A.length 1 (X.1 ++ X.2).length).map fun _ => (none : Option Int)).length = (X.1 ++ X.2).length := by rw [List.length_map, rangeI_len]
    rw [bnd_ok, lrolled_ok _ s' A.length e fs ss (by omega) (by omega) (by omega), bnd_ok, bnd_ok, compS_map (fun _ : Int => (none : Option Int)) _ (by rw [rangeI_len]; omega), bnd_ok, lrolled_ok _ s' A.length e fs _ (by omega) (by omega) (by omega), bnd_ok]
    have lz1 : (List.zipWith T2.mk fs ss).length = (X.1 ++ X.2).length := by rw [List.length_zipWith]; omega
    have lz2 : (List.zipWith T2.mk fs ((rangeI A.length 1 (X.1 ++ X.2).length).map fun _ => (none : Option Int))).length = (X.1 ++ X.2).length := by rw [List.length_zipWith]; omega
    rw [rollP_L _ _ _ _ _ _ (by omega), rollP_L _ _ _ _ _ _ (by omega), eM]
    have z1 := zip_ex (α := Int) (fun y => s'.b.a ≤ y ∧ y ≤ s'.b.b) (fun y => ∃ s, y = some s ∧ s'.c.a ≤ s) fs ss pf ps
    have z2 := zip_ex (α := Int) (fun y => s'.b.a ≤ y ∧ y ≤ s'.b.b) (fun y => y = none) fs ((rangeI A.length 1 (X.1 ++ X.2).length).map fun _ => (none : Option Int)) pf (fun y hy => by
      obtain ⟨_, _, rfl⟩ := List.mem_map.mp hy
      rfl)
    obtain ⟨c1, c2⟩ := (comes g (len := s'.a) (ba := s'.c.a) (fa := s'.b.a) (fb := s'.b.b) (by omega) (by omega) (by omega) a hn _ lz1 (fun y hy => (z1 y hy).1) e he1 he2).1 (fun y hy => (z1 y hy).2)
    obtain ⟨o1, l, o2, o3⟩ := (comes g (len := s'.a) (ba := s'.c.a) (fa := s'.b.a) (fb := s'.b.b) (by omega) (by omega) (by omega) a hn _ lz2 (fun y hy => (z2 y hy).1) e he1 he2).2 (fun y hy => (z2 y hy).2)
    have hr1 := rollL_len s'.d s'.e ((X.1 ++ X.2) ++ Z) e (List.zipWith T2.mk fs ss) (by rw [List.length_append]; omega)
    have ec : ((A.length : Int) + X.1.length) - A.length = (X.1.length : Int) := by omega
    rw [ec, cutG_to _ _ (by omega), cutG_from _ _ (by omega), decide_eq_false c1, decide_eq_true c2, decide_eq_false o1]
    obtain ⟨pre, hpre⟩ := List.getLast?_eq_some_iff.mp o2
    rw [hpre]
    have hl9 : orR false (idxT (pre ++ [l]) (-1 : Int) >>= fun v569 => Res.ok (decide (v569 < s'.e))) = .ok false := by
      show (idxT (pre ++ [l]) (-1 : Int) >>= fun v569 => Res.ok (decide (v569 < s'.e))) = .ok false
      rw [idx_last, bnd_ok, decide_eq_false (by omega)]
    rw [hl9]
    rfl
  · rw [if_pos, bnd_ok, hq hn]
    rw [decide_eq_true_eq]
    have := List.length_pos_iff.mpr hn
    omega
end Cr
namespace Cr
open PySem PySem.Spec PyProof.Rows L2
/-! the derivations of law_k16_whole_every_train_comes_to_the_next_brake, printed by gen.py -/
def top (i : Nat) : Stmt := PySem.Challenge.pw_coastersafe_k16_whole_every_train_comes.main.body.getD i (.Pass ⟨0, 0, 0, 0⟩)
abbrev s_is_interval : Stmt := (top 7)
abbrev s_layout_check_metre : Stmt := (inClass (top 26) 3)
abbrev s_check_energy : Stmt := (top 10)
abbrev s_layout_metre : Stmt := (inClass (top 26) 5)
abbrev s_after_metre : Stmt := (top 11)
abbrev s_layout_total : Stmt := (inClass (top 26) 1)
abbrev s_roll : Stmt := (top 12)
abbrev s_greatest_energies : Stmt := (top 13)
abbrev s_layout_check_block : Stmt := (inClass (top 26) 4)
abbrev s_layout_begin : Stmt := (inClass (top 26) 7)
abbrev s_layout_blocks : Stmt := (inClass (top 26) 2)
abbrev s_layout_end : Stmt := (inClass (top 26) 9)
abbrev s_least_energies : Stmt := (top 14)
abbrev s_envelope_before : Stmt := (top 16)
abbrev s_envelope : Stmt := (top 17)
abbrev s_layout_brake : Stmt := (inClass (top 26) 8)
abbrev s_faults : Stmt := (top 18)
abbrev s_check_segments : Stmt := (top 25)
abbrev s_layout_init : Stmt := (inClass (top 26) 0)
abbrev s_layout_height : Stmt := (inClass (top 26) 6)
abbrev s_train_init : Stmt := (inClass (top 32) 0)
abbrev s_law_cell : Stmt := (top 34)
abbrev s_law_draws : Stmt := (top 35)
abbrev s_law_drawn_segments : Stmt := (top 36)
abbrev s_law_drawn_layout : Stmt := (top 37)
abbrev s_law_drawn_train : Stmt := (top 38)
abbrev s_law_metres : Stmt := (top 39)
abbrev s_law_after : Stmt := (top 40)
abbrev s_law_layout : Stmt := (top 41)
abbrev s_law_train : Stmt := (top 42)
abbrev s_law_safe_rows : Stmt := (top 43)
abbrev s_law_safe_train : Stmt := (top 44)
abbrev s_law_rolled : Stmt := (top 45)
abbrev s_law_brake_of : Stmt := (top 46)
abbrev s_law : Stmt := (top 47)
def ct (K : Fg) : CT := ⟨fun c => match c with
  | 0 => He.ga K "CoasterError"
  | 1 => He.ga K "BadNumber"
  | 2 => He.ga K "InvalidLayout"
  | 3 => He.ga K "InvalidTrain"
  | 6 => He.ga K "NotFitting"
  | 20 => He.ga K "Layout"
  | 21 => He.ga K "Train"
  | _ => 0⟩
def d_is_interval : He.DefD := ⟨("is_interval", none), "is_interval", "is_interval", defArgs s_is_interval, defBody s_is_interval, defScope s_is_interval, [], []⟩
def d_layout_check_metre : He.DefD := ⟨("Layout", some "check_metre"), "check_metre", "Layout.check_metre", defArgs s_layout_check_metre, defBody s_layout_check_metre, defScope s_layout_check_metre, [], []⟩
def d_check_energy : He.DefD := ⟨("check_energy", none), "check_energy", "check_energy", defArgs s_check_energy, defBody s_check_energy, defScope s_check_energy, [], []⟩
def d_layout_metre : He.DefD := ⟨("Layout", some "metre"), "metre", "Layout.metre", defArgs s_layout_metre, defBody s_layout_metre, defScope s_layout_metre, [], []⟩
def d_after_metre : He.DefD := ⟨("after_metre", none), "after_metre", "after_metre", defArgs s_after_metre, defBody s_after_metre, defScope s_after_metre, [], []⟩
def d_layout_total : He.DefD := ⟨("Layout", some "total"), "total", "Layout.total", defArgs s_layout_total, defBody s_layout_total, defScope s_layout_total, [], []⟩
def d_roll : He.DefD := ⟨("roll", none), "roll", "roll", defArgs s_roll, defBody s_roll, defScope s_roll, [], []⟩
def d_greatest_energies : He.DefD := ⟨("greatest_energies", none), "greatest_energies", "greatest_energies", defArgs s_greatest_energies, defBody s_greatest_energies, defScope s_greatest_energies, [], []⟩
def d_layout_check_block : He.DefD := ⟨("Layout", some "check_block"), "check_block", "Layout.check_block", defArgs s_layout_check_block, defBody s_layout_check_block, defScope s_layout_check_block, [], []⟩
def d_layout_begin : He.DefD := ⟨("Layout", some "begin"), "begin", "Layout.begin", defArgs s_layout_begin, defBody s_layout_begin, defScope s_layout_begin, [], []⟩
def d_layout_blocks : He.DefD := ⟨("Layout", some "blocks"), "blocks", "Layout.blocks", defArgs s_layout_blocks, defBody s_layout_blocks, defScope s_layout_blocks, [], []⟩
def d_layout_end : He.DefD := ⟨("Layout", some "end"), "end", "Layout.end", defArgs s_layout_end, defBody s_layout_end, defScope s_layout_end, [], []⟩
def d_least_energies : He.DefD := ⟨("least_energies", none), "least_energies", "least_energies", defArgs s_least_energies, defBody s_least_energies, defScope s_least_energies, [], []⟩
def d_envelope_before : He.DefD := ⟨("envelope_before", none), "envelope_before", "envelope_before", defArgs s_envelope_before, defBody s_envelope_before, defScope s_envelope_before, [], []⟩
def d_envelope : He.DefD := ⟨("envelope", none), "envelope", "envelope", defArgs s_envelope, defBody s_envelope, defScope s_envelope, [], []⟩
def d_layout_brake : He.DefD := ⟨("Layout", some "brake"), "brake", "Layout.brake", defArgs s_layout_brake, defBody s_layout_brake, defScope s_layout_brake, [], []⟩
def d_faults : He.DefD := ⟨("faults", none), "faults", "faults", defArgs s_faults, defBody s_faults, defScope s_faults, [], []⟩
def d_check_segments : He.DefD := ⟨("check_segments", none), "check_segments", "check_segments", defArgs s_check_segments, defBody s_check_segments, defScope s_check_segments, [], []⟩
def d_layout_init : He.DefD := ⟨("Layout", some "__init__"), "__init__", "Layout.__init__", defArgs s_layout_init, defBody s_layout_init, defScope s_layout_init, [], []⟩
def d_layout_height : He.DefD := ⟨("Layout", some "height"), "height", "Layout.height", defArgs s_layout_height, defBody s_layout_height, defScope s_layout_height, [], []⟩
def d_train_init : He.DefD := ⟨("Train", some "__init__"), "__init__", "Train.__init__", defArgs s_train_init, defBody s_train_init, defScope s_train_init, [], []⟩
def d_law_cell : He.DefD := ⟨("_law_cell", none), "_law_cell", "_law_cell", defArgs s_law_cell, defBody s_law_cell, defScope s_law_cell, [], []⟩
def d_law_draws : He.DefD := ⟨("_law_draws", none), "_law_draws", "_law_draws", defArgs s_law_draws, defBody s_law_draws, defScope s_law_draws, [], []⟩
def d_law_drawn_segments : He.DefD := ⟨("_law_drawn_segments", none), "_law_drawn_segments", "_law_drawn_segments", defArgs s_law_drawn_segments, defBody s_law_drawn_segments, defScope s_law_drawn_segments, [], []⟩
def d_law_drawn_layout : He.DefD := ⟨("_law_drawn_layout", none), "_law_drawn_layout", "_law_drawn_layout", defArgs s_law_drawn_layout, defBody s_law_drawn_layout, defScope s_law_drawn_layout, [], []⟩
def d_law_drawn_train : He.DefD := ⟨("_law_drawn_train", none), "_law_drawn_train", "_law_drawn_train", defArgs s_law_drawn_train, defBody s_law_drawn_train, defScope s_law_drawn_train, [], []⟩
def d_law_metres : He.DefD := ⟨("_law_metres", none), "_law_metres", "_law_metres", defArgs s_law_metres, defBody s_law_metres, defScope s_law_metres, [], []⟩
def d_law_after : He.DefD := ⟨("_law_after", none), "_law_after", "_law_after", defArgs s_law_after, defBody s_law_after, defScope s_law_after, [], []⟩
def d_law_layout : He.DefD := ⟨("_law_layout", none), "_law_layout", "_law_layout", defArgs s_law_layout, defBody s_law_layout, defScope s_law_layout, [], []⟩
def d_law_train : He.DefD := ⟨("_law_train", none), "_law_train", "_law_train", defArgs s_law_train, defBody s_law_train, defScope s_law_train, [], []⟩
def d_law_safe_rows : He.DefD := ⟨("_law_safe_rows", none), "_law_safe_rows", "_law_safe_rows", defArgs s_law_safe_rows, defBody s_law_safe_rows, defScope s_law_safe_rows, [], []⟩
def d_law_safe_train : He.DefD := ⟨("_law_safe_train", none), "_law_safe_train", "_law_safe_train", defArgs s_law_safe_train, defBody s_law_safe_train, defScope s_law_safe_train, [], []⟩
def d_law_rolled : He.DefD := ⟨("_law_rolled", none), "_law_rolled", "_law_rolled", defArgs s_law_rolled, defBody s_law_rolled, defScope s_law_rolled, [], []⟩
def d_law_brake_of : He.DefD := ⟨("_law_brake_of", none), "_law_brake_of", "_law_brake_of", defArgs s_law_brake_of, defBody s_law_brake_of, defScope s_law_brake_of, [], []⟩
def d_law : He.DefD := ⟨("law", none), "law", "law", defArgs s_law, defBody s_law, defScope s_law, [], []⟩
def fa : List He.Fa := [.free "len", .cls "Layout", .exc "BadNumber", .glo "BadNumber", .int "FALL" 1962, .free "max", .cls "Train", .noat "Train" "lift", .noat "Train" "drive", .exc "NotFitting", .glo "NotFitting", .free "zip", .noat "Train" "friction", .free "range", .noat "Train" "brake", .noat "Train" "length", .free "min", .glo "KINDS", .int "MOST_LENGTH_layout" 500, .int "MOST_SLOPE" 100, .exc "InvalidLayout", .glo "InvalidLayout", .free "sum", .int "MOST_TOTAL" 4000, .int "MOST_BLOCKS" 12, .noat "Layout" "segments", .free "tuple", .noat "Layout" "metres", .noat "Layout" "begins", .noat "Layout" "brakes", .noat "Layout" "heights", .int "MOST_LENGTH_train" 100, .exc "InvalidTrain", .glo "InvalidTrain", .int "MOST_FRICTION" 100000, .int "MOST_BRAKE" 1000000, .int "MOST_ENERGY" 10000000, .free "abs", .free "int", .glo "is_interval", .meth "Layout" "check_metre", .glo "check_energy", .meth "Layout" "metre", .glo "after_metre", .meth "Layout" "total", .glo "roll", .glo "greatest_energies", .meth "Layout" "check_block", .meth "Layout" "begin", .meth "Layout" "blocks", .meth "Layout" "end", .glo "least_energies", .glo "envelope_before", .glo "envelope", .meth "Layout" "brake", .glo "faults", .glo "check_segments", .glo "Layout", .mkr "Layout", .meth "Layout" "height", .glo "Train", .mkr "Train", .glo "_law_cell", .glo "_law_draws", .glo "_law_drawn_segments", .glo "_law_drawn_layout", .glo "_law_drawn_train", .glo "_law_metres", .glo "_law_after", .glo "_law_layout", .glo "_law_train", .glo "_law_safe_rows", .glo "_law_safe_train", .glo "_law_rolled", .glo "_law_brake_of", .glo "law"]
def fn : List He.DefD := [d_is_interval,
  d_layout_check_metre,
  d_check_energy,
  d_layout_metre,
  d_after_metre,
  d_layout_total,
  d_roll,
  d_greatest_energies,
  d_layout_check_block,
  d_layout_begin,
  d_layout_blocks,
  d_layout_end,
  d_least_energies,
  d_envelope_before,
  d_envelope,
  d_layout_brake,
  d_faults,
  d_check_segments,
  d_layout_init,
  d_layout_height,
  d_train_init,
  d_law_cell,
  d_law_draws,
  d_law_drawn_segments,
  d_law_drawn_layout,
  d_law_drawn_train,
  d_law_metres,
  d_law_after,
  d_law_layout,
  d_law_train,
  d_law_safe_rows,
  d_law_safe_train,
  d_law_rolled,
  d_law_brake_of,
  d_law]
def xs : List (Fg → Bool) := [fun K => He.tupB K "KINDS" [.str "coast", .str "lift", .str "brake"]]
section
variable {P : Program} {w : World} {K : Fg} {mg : Str → Option Value} {base : Heap}
theorem sc_is_interval : FnScope ["pair"] ["pair"] (defScope s_is_interval) := ⟨rfl, rfl, rfl, by decide +kernel, rfl, by decide +kernel, by decide +kernel⟩
theorem at_is_interval (A : Wt fa fn xs K mg) : FnAt P w K mg base (ct K) 1 "is_interval" 1 m_is_interval := by
  obtain ⟨fd, F⟩ := A.def_ 0 (d := d_is_interval) rfl
  have F : FunD K "is_interval" "is_interval" (defArgs s_is_interval) (defBody s_is_interval) (defScope s_is_interval) [] [] (He.fAd K ("is_interval", none)) fd := F
  have hb : Binds K fd ["pair"] [] := binds_n F fun _ _ _ _ _ _ us hl => match us, hl with | [_], _ => rfl
  have hg : mg "is_interval" = some (.ref (He.ga K "is_interval")) := A.glo 39
  have hg : mg "is_interval" = some (.ref (He.fAd K ("is_interval", none))) := hg
  have hk := F.kp
  have z : FnOk P w K mg base (L2.CX P w) (0 + 1) (He.fAd K ("is_interval", none)) fd ["pair"] (spD K (ct K) 1 (runD 1 b_is_interval)) := by
    refine fn_ok (k := 0) (N := ["pair"]) (n := 1) (m := b_is_interval) F sc_is_interval rfl fun cdv A0 outer s H E Fb hr => ?_
    exact (mss_one (ms_ret (me_and (me_cmp (om_eq (hr).units) (ME.toB (me_bi cm_len (A.free 0) (by decide +kernel) (mlb_cons (ME.toB (me_var 0)) mlb_nil))) (ME.toB me_int)) (me_one (me_cmp om_le (ME.toB (me_ix (ME.toB (me_var 0)) (ME.toB me_int))) (ME.toB (me_ix (ME.toB (me_var 0)) (ME.toB me_int))))))))
  exact ⟨(He.fAd K ("is_interval", none)), fd, ["pair"], z, hg, hk, hb⟩
theorem sc_layout_check_metre : FnScope ["self", "number"] ["self", "number"] (defScope s_layout_check_metre) := ⟨rfl, rfl, rfl, by decide +kernel, rfl, by decide +kernel, by decide +kernel⟩
theorem at_layout_check_metre (A : Wt fa fn xs K mg) : MthAt P w K mg base (ct K) 1 20 "check_metre" 1 m_layout_check_metre := by
  obtain ⟨fd, F⟩ := A.def_ 1 (d := d_layout_check_metre) rfl
  have F : FunD K "check_metre" "Layout.check_metre" (defArgs s_layout_check_metre) (defBody s_layout_check_metre) (defScope s_layout_check_metre) [] [] (He.fAd K ("Layout", some "check_metre")) fd := F
  have hb : Binds K fd ["self", "number"] [] := binds_n F fun _ _ _ _ _ _ us hl => match us, hl with | [_, _], _ => rfl
  have hk : Meth K (He.ga K "Layout") "check_metre" (He.ma K (He.ga K "Layout") "check_metre") := A.meth 40
  have hk : Meth K (He.ga K "Layout") "check_metre" (He.fAd K ("Layout", some "check_metre")) := hk
  have z : FnOk P w K mg base (L2.CX P w) (0 + 1) (He.fAd K ("Layout", some "check_metre")) fd ["self", "number"] (spD K (ct K) 2 (runD 2 b_layout_check_metre)) := by
    refine fn_ok (k := 0) (N := ["self", "number"]) (n := 2) (m := b_layout_check_metre) F sc_layout_check_metre rfl fun cdv A0 outer s H E Fb hr => ?_
    exact (mss_one (ms_if (mt_not (mt_chain om_le om_lt (ME.toB me_int) (ME.toB (me_var 1)) (ME.toB (me_bi cm_len (A.free 0) (by decide +kernel) (mlb_cons (ME.toB (me_fld 20 1 (A.cls 1) (A.noat 27) (me_var 0))) mlb_nil))))) (mss_one (ms_raise rfl (A.exc 2 3))) mss_nil))
  exact ⟨(He.fAd K ("Layout", some "check_metre")), fd, ["self", "number"], z, hk, hb⟩
theorem sc_check_energy : FnScope ["layout", "metre", "energy"] ["layout", "metre", "energy"] (defScope s_check_energy) := ⟨rfl, rfl, rfl, by decide +kernel, rfl, by decide +kernel, by decide +kernel⟩
theorem at_check_energy (A : Wt fa fn xs K mg) : FnAt P w K mg base (ct K) 2 "check_energy" 3 m_check_energy := by
  obtain ⟨fd, F⟩ := A.def_ 2 (d := d_check_energy) rfl
  have F : FunD K "check_energy" "check_energy" (defArgs s_check_energy) (defBody s_check_energy) (defScope s_check_energy) [] [] (He.fAd K ("check_energy", none)) fd := F
  have hb : Binds K fd ["layout", "metre", "energy"] [] := binds_n F fun _ _ _ _ _ _ us hl => match us, hl with | [_, _, _], _ => rfl
  have hg : mg "check_energy" = some (.ref (He.ga K "check_energy")) := A.glo 41
  have hg : mg "check_energy" = some (.ref (He.fAd K ("check_energy", none))) := hg
  have hk := F.kp
  have z : FnOk P w K mg base (L2.CX P w) (1 + 1) (He.fAd K ("check_energy", none)) fd ["layout", "metre", "energy"] (spD K (ct K) 3 (runD 3 b_check_energy)) := by
    refine fn_ok (k := 1) (N := ["layout", "metre", "energy"]) (n := 3) (m := b_check_energy) F sc_check_energy rfl fun cdv A0 outer s H E Fb hr => ?_
    exact (mss_cons (ms_expr (me_meth (at_layout_check_metre A) (A.cls 1) (hr.mono (by decide)) (me_var 0) (ml_cons (me_var 1) ml_nil) (len_cons len_nil))) (mss_one (ms_if (mt_cmp om_lt (ME.toB (me_var 2)) (ME.toB me_int)) (mss_one (ms_raise rfl (A.exc 2 3))) mss_nil)))
  exact ⟨(He.fAd K ("check_energy", none)), fd, ["layout", "metre", "energy"], z, hg, hk, hb⟩
theorem sc_layout_metre : FnScope ["self", "number"] ["self", "number"] (defScope s_layout_metre) := ⟨rfl, rfl, rfl, by decide +kernel, rfl, by decide +kernel, by decide +kernel⟩
theorem at_layout_metre (A : Wt fa fn xs K mg) : MthAt P w K mg base (ct K) 2 20 "metre" 1 m_layout_metre := by
  obtain ⟨fd, F⟩ := A.def_ 3 (d := d_layout_metre) rfl
  have F : FunD K "metre" "Layout.metre" (defArgs s_layout_metre) (defBody s_layout_metre) (defScope s_layout_metre) [] [] (He.fAd K ("Layout", some "metre")) fd := F
  have hb : Binds K fd ["self", "number"] [] := binds_n F fun _ _ _ _ _ _ us hl => match us, hl with | [_, _], _ => rfl
  have hk : Meth K (He.ga K "Layout") "metre" (He.ma K (He.ga K "Layout") "metre") := A.meth 42
  have hk : Meth K (He.ga K "Layout") "metre" (He.fAd K ("Layout", some "metre")) := hk
  have z : FnOk P w K mg base (L2.CX P w) (1 + 1) (He.fAd K ("Layout", some "metre")) fd ["self", "number"] (spD K (ct K) 2 (runD 2 b_layout_metre)) := by
    refine fn_ok (k := 1) (N := ["self", "number"]) (n := 2) (m := b_layout_metre) F sc_layout_metre rfl fun cdv A0 outer s H E Fb hr => ?_
    exact (mss_cons (ms_expr (me_meth (at_layout_check_metre A) (A.cls 1) (hr.mono (by decide)) (me_var 0) (ml_cons (me_var 1) ml_nil) (len_cons len_nil))) (mss_one (ms_ret (me_ix (ME.toB (me_fld 20 1 (A.cls 1) (A.noat 27) (me_var 0))) (ME.toB (me_var 1))))))
  exact ⟨(He.fAd K ("Layout", some "metre")), fd, ["self", "number"], z, hk, hb⟩
theorem sc_after_metre : FnScope ["layout", "train", "metre", "energy", "friction", "strength", "rest", "kind", "slope", "_"] ["layout", "train", "metre", "energy", "friction", "strength"] (defScope s_after_metre) := ⟨rfl, rfl, rfl, by decide +kernel, rfl, by decide +kernel, by decide +kernel⟩
theorem at_after_metre (A : Wt fa fn xs K mg) : FnAt P w K mg base (ct K) 3 "after_metre" 6 m_after_metre := by
  obtain ⟨fd, F⟩ := A.def_ 4 (d := d_after_metre) rfl
  have F : FunD K "after_metre" "after_metre" (defArgs s_after_metre) (defBody s_after_metre) (defScope s_after_metre) [] [] (He.fAd K ("after_metre", none)) fd := F
  have hb : Binds K fd ["layout", "train", "metre", "energy", "friction", "strength"] [] := binds_n F fun _ _ _ _ _ _ us hl => match us, hl with | [_, _, _, _, _, _], _ => rfl
  have hg : mg "after_metre" = some (.ref (He.ga K "after_metre")) := A.glo 43
  have hg : mg "after_metre" = some (.ref (He.fAd K ("after_metre", none))) := hg
  have hk := F.kp
  have z : FnOk P w K mg base (L2.CX P w) (2 + 1) (He.fAd K ("after_metre", none)) fd ["layout", "train", "metre", "energy", "friction", "strength"] (spD K (ct K) 6 (runD 10 b_after_metre)) := by
    refine fn_ok (k := 2) (N := ["layout", "train", "metre", "energy", "friction", "strength", "rest", "kind", "slope", "_"]) (n := 6) (m := b_after_metre) F sc_after_metre rfl fun cdv A0 outer s H E Fb hr => ?_
    exact (mss_cons (ms_expr (me_call (at_check_energy A) (hr.mono (by decide)) (ml_cons (me_var 0) (ml_cons (me_var 2) (ml_cons (me_var 3) ml_nil))) (len_cons (len_cons (len_cons len_nil))))) (mss_cons (ms_asg (vs := [7, 8, 9]) (me_meth (at_layout_metre A) (A.cls 1) (hr.mono (by decide)) (me_var 0) (ml_cons (me_var 2) ml_nil) (len_cons len_nil)) (mg_seq rfl (mgs_cons (mg_name 7 sc_after_metre.nd) (mgs_cons (mg_name 8 sc_after_metre.nd) (mgs_cons (mg_name 9 sc_after_metre.nd) mgs_nil))) (glen_cons (glen_cons (glen_cons glen_nil))))) (mss_cons (ms_set 6 sc_after_metre.nd (me_bin om_sub (ME.toB (me_bin om_sub (ME.toB (me_var 3)) (ME.toB (me_bin om_mul (ME.toB (me_glo (A.int 4))) (ME.toB (me_var 8)))))) (ME.toB (me_var 4)))) (mss_cons (ms_if (mt_cmp (om_eq (hr).units) (ME.toB (me_var 7)) (ME.toB me_str)) (mss_one (ms_ret (me_bi (cm_max2 rfl) (A.free 5) (by decide +kernel) (mlb_cons (ME.toB (me_fld 21 3 (A.cls 6) (A.noat 7) (me_var 1))) (mlb_cons (ME.toB (me_var 6)) mlb_nil))))) mss_nil) (mss_cons (ms_if (MW.toT (mw_and (mt_cmp (om_eq (hr).units) (ME.toB (me_var 7)) (ME.toB me_str)) (mw_and1 (mt_cmp om_is (ME.toB (me_var 5)) (ME.toB me_non))))) (mss_one (ms_ret (me_bi (cm_max2 rfl) (A.free 5) (by decide +kernel) (mlb_cons (ME.toB (me_fld 21 4 (A.cls 6) (A.noat 8) (me_var 1))) (mlb_cons (ME.toB (me_var 6)) mlb_nil))))) mss_nil) (mss_cons (ms_if (mt_cmp (om_eq (hr).units) (ME.toB (me_var 7)) (ME.toB me_str)) (mss_one (ms_aug 6 sc_after_metre.nd om_isub (ME.toB (me_var 5)))) mss_nil) (mss_one (ms_ret (me_if (mt_cmp om_gt (ME.toB (me_var 3)) (ME.toB me_int)) (me_bi (cm_max2 rfl) (A.free 5) (by decide +kernel) (mlb_cons (ME.toB me_int) (mlb_cons (ME.toB (me_var 6)) mlb_nil))) me_int)))))))))
  exact ⟨(He.fAd K ("after_metre", none)), fd, ["layout", "train", "metre", "energy", "friction", "strength"], z, hg, hk, hb⟩
theorem sc_layout_total : FnScope ["self"] ["self"] (defScope s_layout_total) := ⟨rfl, rfl, rfl, by decide +kernel, rfl, by decide +kernel, by decide +kernel⟩
theorem at_layout_total (A : Wt fa fn xs K mg) : MthAt P w K mg base (ct K) 1 20 "total" 0 m_layout_total := by
  obtain ⟨fd, F⟩ := A.def_ 5 (d := d_layout_total) rfl
  have F : FunD K "total" "Layout.total" (defArgs s_layout_total) (defBody s_layout_total) (defScope s_layout_total) [] [] (He.fAd K ("Layout", some "total")) fd := F
  have hb : Binds K fd ["self"] [] := binds_n F fun _ _ _ _ _ _ us hl => match us, hl with | [_], _ => rfl
  have hk : Meth K (He.ga K "Layout") "total" (He.ma K (He.ga K "Layout") "total") := A.meth 44
  have hk : Meth K (He.ga K "Layout") "total" (He.fAd K ("Layout", some "total")) := hk
  have z : FnOk P w K mg base (L2.CX P w) (0 + 1) (He.fAd K ("Layout", some "total")) fd ["self"] (spD K (ct K) 1 (runD 1 b_layout_total)) := by
    refine fn_ok (k := 0) (N := ["self"]) (n := 1) (m := b_layout_total) F sc_layout_total rfl fun cdv A0 outer s H E Fb hr => ?_
    exact (mss_one (ms_ret (me_bi cm_len (A.free 0) (by decide +kernel) (mlb_cons (ME.toB (me_fld 20 1 (A.cls 1) (A.noat 27) (me_var 0))) mlb_nil))))
  exact ⟨(He.fAd K ("Layout", some "total")), fd, ["self"], z, hk, hb⟩
theorem sc_roll : FnScope ["layout", "train", "metre", "energy", "frictions", "strengths", "found", "friction", "strength"] ["layout", "train", "metre", "energy", "frictions", "strengths"] (defScope s_roll) := ⟨rfl, rfl, rfl, by decide +kernel, rfl, by decide +kernel, by decide +kernel⟩
theorem at_roll (A : Wt fa fn xs K mg) : FnAt P w K mg base (ct K) 4 "roll" 6 m_roll := by
  obtain ⟨fd, F⟩ := A.def_ 6 (d := d_roll) rfl
  have F : FunD K "roll" "roll" (defArgs s_roll) (defBody s_roll) (defScope s_roll) [] [] (He.fAd K ("roll", none)) fd := F
  have hb : Binds K fd ["layout", "train", "metre", "energy", "frictions", "strengths"] [] := binds_n F fun _ _ _ _ _ _ us hl => match us, hl with | [_, _, _, _, _, _], _ => rfl
  have hg : mg "roll" = some (.ref (He.ga K "roll")) := A.glo 45
  have hg : mg "roll" = some (.ref (He.fAd K ("roll", none))) := hg
  have hk := F.kp
  have z : FnOk P w K mg base (L2.CX P w) (3 + 1) (He.fAd K ("roll", none)) fd ["layout", "train", "metre", "energy", "frictions", "strengths"] (spD K (ct K) 6 (runD 9 b_roll)) := by
    refine fn_ok (k := 3) (N := ["layout", "train", "metre", "energy", "frictions", "strengths", "found", "friction", "strength"]) (n := 6) (m := b_roll) F sc_roll rfl fun cdv A0 outer s H E Fb hr => ?_
    exact (mss_cons (ms_expr (me_call (at_check_energy A) (hr.mono (by decide)) (ml_cons (me_var 0) (ml_cons (me_var 2) (ml_cons (me_var 3) ml_nil))) (len_cons (len_cons (len_cons len_nil))))) (mss_cons (ms_if (mt_cmp (om_ne (hr).units) (ME.toB (me_bi cm_len (A.free 0) (by decide +kernel) (mlb_cons (ME.toB (me_var 4)) mlb_nil))) (ME.toB (me_bi cm_len (A.free 0) (by decide +kernel) (mlb_cons (ME.toB (me_var 5)) mlb_nil)))) (mss_one (ms_raise rfl (A.exc 9 10))) mss_nil) (mss_cons (ms_setO 6 sc_roll.nd (mf_lst ml_nil)) (mss_cons (ms_for (vs := [7, 8]) (passes_of rfl) rfl (mi_zip (A.free 11) (ml_cons (me_var 4) (ml_cons (me_var 5) ml_nil))) (mg_seq rfl (mgs_cons (mg_name 7 sc_roll.nd) (mgs_cons (mg_name 8 sc_roll.nd) mgs_nil)) (glen_cons (glen_cons glen_nil))) (mss_cons (ms_set 3 sc_roll.nd (me_call (at_after_metre A) (hr.mono (by decide)) (ml_cons (me_var 0) (ml_cons (me_var 1) (ml_cons (me_var 2) (ml_cons (me_var 3) (ml_cons (me_var 7) (ml_cons (me_var 8) ml_nil)))))) (len_cons (len_cons (len_cons (len_cons (len_cons (len_cons len_nil)))))))) (mss_cons (ms_lw 6 lw_append (ml_cons (me_var 3) ml_nil) (hpe := fun h h0 h1 => pe_bm PySem.F.plainAttrs_list PySem.F.slot_list_append PySem.F.type_list_append h h0 h1)) (mss_one (ms_set 2 sc_roll.nd (me_bin om_mod (ME.toB (me_bin om_add (ME.toB (me_var 2)) (ME.toB me_int))) (ME.toB (me_meth0 (at_layout_total A) (A.cls 1) (hr.mono (by decide)) (me_var 0))))))))) (mss_frz 6 (mss_one (ms_ret (me_var 6))))))))
  exact ⟨(He.fAd K ("roll", none)), fd, ["layout", "train", "metre", "energy", "frictions", "strengths"], z, hg, hk, hb⟩
theorem sc_greatest_energies : FnScope ["layout", "train", "total", "free", "first"] ["layout", "train"] (defScope s_greatest_energies) := ⟨rfl, rfl, rfl, by decide +kernel, rfl, by decide +kernel, by decide +kernel⟩
theorem at_greatest_energies (A : Wt fa fn xs K mg) : FnAt P w K mg base (ct K) 5 "greatest_energies" 2 m_greatest_energies := by
  obtain ⟨fd, F⟩ := A.def_ 7 (d := d_greatest_energies) rfl
  have F : FunD K "greatest_energies" "greatest_energies" (defArgs s_greatest_energies) (defBody s_greatest_energies) (defScope s_greatest_energies) [] [] (He.fAd K ("greatest_energies", none)) fd := F
  have hb : Binds K fd ["layout", "train"] [] := binds_n F fun _ _ _ _ _ _ us hl => match us, hl with | [_, _], _ => rfl
  have hg : mg "greatest_energies" = some (.ref (He.ga K "greatest_energies")) := A.glo 46
  have hg : mg "greatest_energies" = some (.ref (He.fAd K ("greatest_energies", none))) := hg
  have hk := F.kp
  have z : FnOk P w K mg base (L2.CX P w) (4 + 1) (He.fAd K ("greatest_energies", none)) fd ["layout", "train"] (spD K (ct K) 2 (runD 5 b_greatest_energies)) := by
    refine fn_ok (k := 4) (N := ["layout", "train", "total", "free", "first"]) (n := 2) (m := b_greatest_energies) F sc_greatest_energies rfl fun cdv A0 outer s H E Fb hr => ?_
    exact (mss_cons (ms_set 2 sc_greatest_energies.nd (me_meth0 (at_layout_total A) (A.cls 1) (hr.mono (by decide)) (me_var 0))) (mss_cons (ms_set 3 sc_greatest_energies.nd (me_bin om_mul (ME.toB (MF.toE (mf_lst (ml_cons (me_ix (ME.toB (me_fld 21 1 (A.cls 6) (A.noat 12) (me_var 1))) (ME.toB me_int)) ml_nil)))) (ME.toB (me_var 2)))) (mss_cons (ms_set 4 sc_greatest_energies.nd (me_ix (ME.toB (me_call (at_roll A) (hr.mono (by decide)) (ml_cons (me_var 0) (ml_cons (me_var 1) (ml_cons me_int (ml_cons (me_fld 21 4 (A.cls 6) (A.noat 8) (me_var 1)) (ml_cons (me_var 3) (ml_cons (me_bin om_mul (ME.toB (MF.toE (mf_lst (ml_cons me_non ml_nil)))) (ME.toB (me_var 2))) ml_nil)))))) (len_cons (len_cons (len_cons (len_cons (len_cons (len_cons len_nil)))))))) (ME.toB (me_neg (ME.toB me_int))))) (mss_one (ms_ret (me_bin om_add (ME.toB (MF.toE (mf_lst (ml_cons (me_var 4) ml_nil)))) (ME.toB (me_slice (ME.toB (me_call (at_roll A) (hr.mono (by decide)) (ml_cons (me_var 0) (ml_cons (me_var 1) (ml_cons me_int (ml_cons (me_var 4) (ml_cons (me_var 3) (ml_cons (me_bin om_mul (ME.toB (MF.toE (mf_lst (ml_cons me_non ml_nil)))) (ME.toB (me_var 2))) ml_nil)))))) (len_cons (len_cons (len_cons (len_cons (len_cons (len_cons len_nil)))))))) mo_none (mo_some (ME.toB (me_neg (ME.toB me_int))))))))))))
  exact ⟨(He.fAd K ("greatest_energies", none)), fd, ["layout", "train"], z, hg, hk, hb⟩
theorem sc_layout_check_block : FnScope ["self", "block"] ["self", "block"] (defScope s_layout_check_block) := ⟨rfl, rfl, rfl, by decide +kernel, rfl, by decide +kernel, by decide +kernel⟩
theorem at_layout_check_block (A : Wt fa fn xs K mg) : MthAt P w K mg base (ct K) 1 20 "check_block" 1 m_layout_check_block := by
  obtain ⟨fd, F⟩ := A.def_ 8 (d := d_layout_check_block) rfl
  have F : FunD K "check_block" "Layout.check_block" (defArgs s_layout_check_block) (defBody s_layout_check_block) (defScope s_layout_check_block) [] [] (He.fAd K ("Layout", some "check_block")) fd := F
  have hb : Binds K fd ["self", "block"] [] := binds_n F fun _ _ _ _ _ _ us hl => match us, hl with | [_, _], _ => rfl
  have hk : Meth K (He.ga K "Layout") "check_block" (He.ma K (He.ga K "Layout") "check_block") := A.meth 47
  have hk : Meth K (He.ga K "Layout") "check_block" (He.fAd K ("Layout", some "check_block")) := hk
  have z : FnOk P w K mg base (L2.CX P w) (0 + 1) (He.fAd K ("Layout", some "check_block")) fd ["self", "block"] (spD K (ct K) 2 (runD 2 b_layout_check_block)) := by
    refine fn_ok (k := 0) (N := ["self", "block"]) (n := 2) (m := b_layout_check_block) F sc_layout_check_block rfl fun cdv A0 outer s H E Fb hr => ?_
    exact (mss_one (ms_if (mt_not (mt_chain om_le om_lt (ME.toB me_int) (ME.toB (me_var 1)) (ME.toB (me_bi cm_len (A.free 0) (by decide +kernel) (mlb_cons (ME.toB (me_fld 20 3 (A.cls 1) (A.noat 29) (me_var 0))) mlb_nil))))) (mss_one (ms_raise rfl (A.exc 2 3))) mss_nil))
  exact ⟨(He.fAd K ("Layout", some "check_block")), fd, ["self", "block"], z, hk, hb⟩
theorem sc_layout_begin : FnScope ["self", "block"] ["self", "block"] (defScope s_layout_begin) := ⟨rfl, rfl, rfl, by decide +kernel, rfl, by decide +kernel, by decide +kernel⟩
theorem at_layout_begin (A : Wt fa fn xs K mg) : MthAt P w K mg base (ct K) 2 20 "begin" 1 m_layout_begin := by
  obtain ⟨fd, F⟩ := A.def_ 9 (d := d_layout_begin) rfl
  have F : FunD K "begin" "Layout.begin" (defArgs s_layout_begin) (defBody s_layout_begin) (defScope s_layout_begin) [] [] (He.fAd K ("Layout", some "begin")) fd := F
  have hb : Binds K fd ["self", "block"] [] := binds_n F fun _ _ _ _ _ _ us hl => match us, hl with | [_, _], _ => rfl
  have hk : Meth K (He.ga K "Layout") "begin" (He.ma K (He.ga K "Layout") "begin") := A.meth 48
  have hk : Meth K (He.ga K "Layout") "begin" (He.fAd K ("Layout", some "begin")) := hk
  have z : FnOk P w K mg base (L2.CX P w) (1 + 1) (He.fAd K ("Layout", some "begin")) fd ["self", "block"] (spD K (ct K) 2 (runD 2 b_layout_begin)) := by
    refine fn_ok (k := 1) (N := ["self", "block"]) (n := 2) (m := b_layout_begin) F sc_layout_begin rfl fun cdv A0 outer s H E Fb hr => ?_
    exact (mss_cons (ms_expr (me_meth (at_layout_check_block A) (A.cls 1) (hr.mono (by decide)) (me_var 0) (ml_cons (me_var 1) ml_nil) (len_cons len_nil))) (mss_one (ms_ret (me_ix (ME.toB (me_fld 20 2 (A.cls 1) (A.noat 28) (me_var 0))) (ME.toB (me_var 1))))))
  exact ⟨(He.fAd K ("Layout", some "begin")), fd, ["self", "block"], z, hk, hb⟩
theorem sc_layout_blocks : FnScope ["self"] ["self"] (defScope s_layout_blocks) := ⟨rfl, rfl, rfl, by decide +kernel, rfl, by decide +kernel, by decide +kernel⟩
theorem at_layout_blocks (A : Wt fa fn xs K mg) : MthAt P w K mg base (ct K) 1 20 "blocks" 0 m_layout_blocks := by
  obtain ⟨fd, F⟩ := A.def_ 10 (d := d_layout_blocks) rfl
  have F : FunD K "blocks" "Layout.blocks" (defArgs s_layout_blocks) (defBody s_layout_blocks) (defScope s_layout_blocks) [] [] (He.fAd K ("Layout", some "blocks")) fd := F
  have hb : Binds K fd ["self"] [] := binds_n F fun _ _ _ _ _ _ us hl => match us, hl with | [_], _ => rfl
  have hk : Meth K (He.ga K "Layout") "blocks" (He.ma K (He.ga K "Layout") "blocks") := A.meth 49
  have hk : Meth K (He.ga K "Layout") "blocks" (He.fAd K ("Layout", some "blocks")) := hk
  have z : FnOk P w K mg base (L2.CX P w) (0 + 1) (He.fAd K ("Layout", some "blocks")) fd ["self"] (spD K (ct K) 1 (runD 1 b_layout_blocks)) := by
    refine fn_ok (k := 0) (N := ["self"]) (n := 1) (m := b_layout_blocks) F sc_layout_blocks rfl fun cdv A0 outer s H E Fb hr => ?_
    exact (mss_one (ms_ret (me_bi cm_len (A.free 0) (by decide +kernel) (mlb_cons (ME.toB (me_fld 20 3 (A.cls 1) (A.noat 29) (me_var 0))) mlb_nil))))
  exact ⟨(He.fAd K ("Layout", some "blocks")), fd, ["self"], z, hk, hb⟩
theorem sc_layout_end : FnScope ["self", "block"] ["self", "block"] (defScope s_layout_end) := ⟨rfl, rfl, rfl, by decide +kernel, rfl, by decide +kernel, by decide +kernel⟩
theorem at_layout_end (A : Wt fa fn xs K mg) : MthAt P w K mg base (ct K) 2 20 "end" 1 m_layout_end := by
  obtain ⟨fd, F⟩ := A.def_ 11 (d := d_layout_end) rfl
  have F : FunD K "end" "Layout.end" (defArgs s_layout_end) (defBody s_layout_end) (defScope s_layout_end) [] [] (He.fAd K ("Layout", some "end")) fd := F
  have hb : Binds K fd ["self", "block"] [] := binds_n F fun _ _ _ _ _ _ us hl => match us, hl with | [_, _], _ => rfl
  have hk : Meth K (He.ga K "Layout") "end" (He.ma K (He.ga K "Layout") "end") := A.meth 50
  have hk : Meth K (He.ga K "Layout") "end" (He.fAd K ("Layout", some "end")) := hk
  have z : FnOk P w K mg base (L2.CX P w) (1 + 1) (He.fAd K ("Layout", some "end")) fd ["self", "block"] (spD K (ct K) 2 (runD 2 b_layout_end)) := by
    refine fn_ok (k := 1) (N := ["self", "block"]) (n := 2) (m := b_layout_end) F sc_layout_end rfl fun cdv A0 outer s H E Fb hr => ?_
    exact (mss_cons (ms_expr (me_meth (at_layout_check_block A) (A.cls 1) (hr.mono (by decide)) (me_var 0) (ml_cons (me_var 1) ml_nil) (len_cons len_nil))) (mss_one (ms_ret (me_ix (ME.toB (me_fld 20 2 (A.cls 1) (A.noat 28) (me_var 0))) (ME.toB (me_bin om_add (ME.toB (me_var 1)) (ME.toB me_int)))))))
  exact ⟨(He.fAd K ("Layout", some "end")), fd, ["self", "block"], z, hk, hb⟩
theorem sc_least_energies : FnScope ["layout", "train", "found", "block", "count", "rough"] ["layout", "train"] (defScope s_least_energies) := ⟨rfl, rfl, rfl, by decide +kernel, rfl, by decide +kernel, by decide +kernel⟩
theorem at_least_energies (A : Wt fa fn xs K mg) : FnAt P w K mg base (ct K) 5 "least_energies" 2 m_least_energies := by
  obtain ⟨fd, F⟩ := A.def_ 12 (d := d_least_energies) rfl
  have F : FunD K "least_energies" "least_energies" (defArgs s_least_energies) (defBody s_least_energies) (defScope s_least_energies) [] [] (He.fAd K ("least_energies", none)) fd := F
  have hb : Binds K fd ["layout", "train"] [] := binds_n F fun _ _ _ _ _ _ us hl => match us, hl with | [_, _], _ => rfl
  have hg : mg "least_energies" = some (.ref (He.ga K "least_energies")) := A.glo 51
  have hg : mg "least_energies" = some (.ref (He.fAd K ("least_energies", none))) := hg
  have hk := F.kp
  have z : FnOk P w K mg base (L2.CX P w) (4 + 1) (He.fAd K ("least_energies", none)) fd ["layout", "train"] (spD K (ct K) 2 (runD 6 b_least_energies)) := by
    refine fn_ok (k := 4) (N := ["layout", "train", "found", "block", "count", "rough"]) (n := 2) (m := b_least_energies) F sc_least_energies rfl fun cdv A0 outer s H E Fb hr => ?_
    exact (mss_cons (ms_setO 2 sc_least_energies.nd (mf_lst ml_nil)) (mss_cons (ms_for (vs := [3]) (passes_of rfl) rfl (mi_range1 (A.free 13) (ml_cons (me_meth0 (at_layout_blocks A) (A.cls 1) (hr.mono (by decide)) (me_var 0)) ml_nil)) (mg_name 3 sc_least_energies.nd) (mss_cons (ms_set 4 sc_least_energies.nd (me_bin om_sub (ME.toB (me_meth (at_layout_end A) (A.cls 1) (hr.mono (by decide)) (me_var 0) (ml_cons (me_var 3) ml_nil) (len_cons len_nil))) (ME.toB (me_meth (at_layout_begin A) (A.cls 1) (hr.mono (by decide)) (me_var 0) (ml_cons (me_var 3) ml_nil) (len_cons len_nil))))) (mss_cons (ms_lw 2 lw_append (ml_cons (me_fld 21 4 (A.cls 6) (A.noat 8) (me_var 1)) ml_nil) (hpe := fun h h0 h1 => pe_bm PySem.F.plainAttrs_list PySem.F.slot_list_append PySem.F.type_list_append h h0 h1)) (mss_cons (ms_set 5 sc_least_energies.nd (me_bin om_mul (ME.toB (MF.toE (mf_lst (ml_cons (me_ix (ME.toB (me_fld 21 1 (A.cls 6) (A.noat 12) (me_var 1))) (ME.toB me_int)) ml_nil)))) (ME.toB (me_var 4)))) (mss_one (ms_lm 2 lm_extend (mlb_cons (ME.toB (me_slice (ME.toB (me_call (at_roll A) (hr.mono (by decide)) (ml_cons (me_var 0) (ml_cons (me_var 1) (ml_cons (me_meth (at_layout_begin A) (A.cls 1) (hr.mono (by decide)) (me_var 0) (ml_cons (me_var 3) ml_nil) (len_cons len_nil)) (ml_cons (me_fld 21 4 (A.cls 6) (A.noat 8) (me_var 1)) (ml_cons (me_var 5) (ml_cons (me_bin om_mul (ME.toB (MF.toE (mf_lst (ml_cons me_non ml_nil)))) (ME.toB (me_var 4))) ml_nil)))))) (len_cons (len_cons (len_cons (len_cons (len_cons (len_cons len_nil)))))))) mo_none (mo_some (ME.toB (me_neg (ME.toB me_int)))))) mlb_nil) (hpe := fun h h0 h1 => pe_bm PySem.F.plainAttrs_list PySem.F.slot_list_extend PySem.F.type_list_extend h h0 h1))))))) (mss_frz 2 (mss_one (ms_ret (me_var 2))))))
  exact ⟨(He.fAd K ("least_energies", none)), fd, ["layout", "train"], z, hg, hk, hb⟩
theorem sc_envelope_before : FnScope ["layout", "train", "metre", "following", "rest", "kind", "slope", "_"] ["layout", "train", "metre", "following"] (defScope s_envelope_before) := ⟨rfl, rfl, rfl, by decide +kernel, rfl, by decide +kernel, by decide +kernel⟩
theorem at_envelope_before (A : Wt fa fn xs K mg) : FnAt P w K mg base (ct K) 3 "envelope_before" 4 m_envelope_before := by
  obtain ⟨fd, F⟩ := A.def_ 13 (d := d_envelope_before) rfl
  have F : FunD K "envelope_before" "envelope_before" (defArgs s_envelope_before) (defBody s_envelope_before) (defScope s_envelope_before) [] [] (He.fAd K ("envelope_before", none)) fd := F
  have hb : Binds K fd ["layout", "train", "metre", "following"] [] := binds_n F fun _ _ _ _ _ _ us hl => match us, hl with | [_, _, _, _], _ => rfl
  have hg : mg "envelope_before" = some (.ref (He.ga K "envelope_before")) := A.glo 52
  have hg : mg "envelope_before" = some (.ref (He.fAd K ("envelope_before", none))) := hg
  have hk := F.kp
  have z : FnOk P w K mg base (L2.CX P w) (2 + 1) (He.fAd K ("envelope_before", none)) fd ["layout", "train", "metre", "following"] (spD K (ct K) 4 (runD 8 b_envelope_before)) := by
    refine fn_ok (k := 2) (N := ["layout", "train", "metre", "following", "rest", "kind", "slope", "_"]) (n := 4) (m := b_envelope_before) F sc_envelope_before rfl fun cdv A0 outer s H E Fb hr => ?_
    exact (mss_cons (ms_asg (vs := [5, 6, 7]) (me_meth (at_layout_metre A) (A.cls 1) (hr.mono (by decide)) (me_var 0) (ml_cons (me_var 2) ml_nil) (len_cons len_nil)) (mg_seq rfl (mgs_cons (mg_name 5 sc_envelope_before.nd) (mgs_cons (mg_name 6 sc_envelope_before.nd) (mgs_cons (mg_name 7 sc_envelope_before.nd) mgs_nil))) (glen_cons (glen_cons (glen_cons glen_nil))))) (mss_cons (ms_set 4 sc_envelope_before.nd (me_bin om_add (ME.toB (me_bin om_mul (ME.toB (me_glo (A.int 4))) (ME.toB (me_var 6)))) (ME.toB (me_ix (ME.toB (me_fld 21 1 (A.cls 6) (A.noat 12) (me_var 1))) (ME.toB me_int))))) (mss_cons (ms_if (mt_cmp (om_eq (hr).units) (ME.toB (me_var 5)) (ME.toB me_str)) (mss_one (ms_ret (me_if (MW.toT (mw_and (mt_cmp om_le (ME.toB (me_fld 21 3 (A.cls 6) (A.noat 7) (me_var 1))) (ME.toB (me_var 3))) (mw_and1 (mt_cmp om_ge (ME.toB (me_bin om_add (ME.toB (me_var 3)) (ME.toB (me_var 4)))) (ME.toB me_int))))) (me_bin om_add (ME.toB (me_var 3)) (ME.toB (me_var 4))) (me_neg (ME.toB me_int))))) mss_nil) (mss_cons (ms_if (mt_cmp (om_eq (hr).units) (ME.toB (me_var 5)) (ME.toB me_str)) (mss_one (ms_aug 4 sc_envelope_before.nd om_iadd (ME.toB (me_ix (ME.toB (me_fld 21 2 (A.cls 6) (A.noat 14) (me_var 1))) (ME.toB me_int))))) mss_nil) (mss_one (ms_ret (me_bi (cm_max2 rfl) (A.free 5) (by decide +kernel) (mlb_cons (ME.toB me_int) (mlb_cons (ME.toB (me_bin om_add (ME.toB (me_bi (cm_max2 rfl) (A.free 5) (by decide +kernel) (mlb_cons (ME.toB me_int) (mlb_cons (ME.toB (me_var 3)) mlb_nil)))) (ME.toB (me_var 4)))) mlb_nil)))))))))
  exact ⟨(He.fAd K ("envelope_before", none)), fd, ["layout", "train", "metre", "following"], z, hg, hk, hb⟩
theorem sc_envelope : FnScope ["layout", "train", "found", "block", "backward", "following", "metre"] ["layout", "train"] (defScope s_envelope) := ⟨rfl, rfl, rfl, by decide +kernel, rfl, by decide +kernel, by decide +kernel⟩
theorem at_envelope (A : Wt fa fn xs K mg) : FnAt P w K mg base (ct K) 4 "envelope" 2 m_envelope := by
  obtain ⟨fd, F⟩ := A.def_ 14 (d := d_envelope) rfl
  have F : FunD K "envelope" "envelope" (defArgs s_envelope) (defBody s_envelope) (defScope s_envelope) [] [] (He.fAd K ("envelope", none)) fd := F
  have hb : Binds K fd ["layout", "train"] [] := binds_n F fun _ _ _ _ _ _ us hl => match us, hl with | [_, _], _ => rfl
  have hg : mg "envelope" = some (.ref (He.ga K "envelope")) := A.glo 53
  have hg : mg "envelope" = some (.ref (He.fAd K ("envelope", none))) := hg
  have hk := F.kp
  have z : FnOk P w K mg base (L2.CX P w) (3 + 1) (He.fAd K ("envelope", none)) fd ["layout", "train"] (spD K (ct K) 2 (runD 7 b_envelope)) := by
    refine fn_ok (k := 3) (N := ["layout", "train", "found", "block", "backward", "following", "metre"]) (n := 2) (m := b_envelope) F sc_envelope rfl fun cdv A0 outer s H E Fb hr => ?_
    exact (mss_cons (ms_setO 2 sc_envelope.nd (mf_lst ml_nil)) (mss_cons (ms_for (vs := [3]) (passes_of rfl) rfl (mi_range1 (A.free 13) (ml_cons (me_meth0 (at_layout_blocks A) (A.cls 1) (hr.mono (by decide)) (me_var 0)) ml_nil)) (mg_name 3 sc_envelope.nd) (mss_cons (ms_setO 4 sc_envelope.nd (mf_lst ml_nil)) (mss_cons (ms_set 5 sc_envelope.nd me_int) (mss_cons (ms_for (vs := [6]) (passes_of rfl) rfl (mi_range3 (A.free 13) (ml_cons (me_bin om_sub (ME.toB (me_meth (at_layout_end A) (A.cls 1) (hr.mono (by decide)) (me_var 0) (ml_cons (me_var 3) ml_nil) (len_cons len_nil))) (ME.toB me_int)) (ml_cons (me_bin om_sub (ME.toB (me_meth (at_layout_begin A) (A.cls 1) (hr.mono (by decide)) (me_var 0) (ml_cons (me_var 3) ml_nil) (len_cons len_nil))) (ME.toB me_int)) (ml_cons (me_neg (ME.toB me_int)) ml_nil)))) (mg_name 6 sc_envelope.nd) (mss_cons (ms_set 5 sc_envelope.nd (me_call (at_envelope_before A) (hr.mono (by decide)) (ml_cons (me_var 0) (ml_cons (me_var 1) (ml_cons (me_var 6) (ml_cons (me_var 5) ml_nil)))) (len_cons (len_cons (len_cons (len_cons len_nil)))))) (mss_one (ms_lw 4 lw_append (ml_cons (me_var 5) ml_nil) (hpe := fun h h0 h1 => pe_bm PySem.F.plainAttrs_list PySem.F.slot_list_append PySem.F.type_list_append h h0 h1))))) (mss_one (ms_lm 2 lm_extend (mlb_cons (ME.toB (MF.toE (mf_rev (mb_var 4)))) mlb_nil) (hpe := fun h h0 h1 => pe_bm PySem.F.plainAttrs_list PySem.F.slot_list_extend PySem.F.type_list_extend h h0 h1))))))) (mss_frz 2 (mss_one (ms_ret (me_var 2))))))
  exact ⟨(He.fAd K ("envelope", none)), fd, ["layout", "train"], z, hg, hk, hb⟩
theorem sc_layout_brake : FnScope ["self", "block"] ["self", "block"] (defScope s_layout_brake) := ⟨rfl, rfl, rfl, by decide +kernel, rfl, by decide +kernel, by decide +kernel⟩
theorem at_layout_brake (A : Wt fa fn xs K mg) : MthAt P w K mg base (ct K) 2 20 "brake" 1 m_layout_brake := by
  obtain ⟨fd, F⟩ := A.def_ 15 (d := d_layout_brake) rfl
  have F : FunD K "brake" "Layout.brake" (defArgs s_layout_brake) (defBody s_layout_brake) (defScope s_layout_brake) [] [] (He.fAd K ("Layout", some "brake")) fd := F
  have hb : Binds K fd ["self", "block"] [] := binds_n F fun _ _ _ _ _ _ us hl => match us, hl with | [_, _], _ => rfl
  have hk : Meth K (He.ga K "Layout") "brake" (He.ma K (He.ga K "Layout") "brake") := A.meth 54
  have hk : Meth K (He.ga K "Layout") "brake" (He.fAd K ("Layout", some "brake")) := hk
  have z : FnOk P w K mg base (L2.CX P w) (1 + 1) (He.fAd K ("Layout", some "brake")) fd ["self", "block"] (spD K (ct K) 2 (runD 2 b_layout_brake)) := by
    refine fn_ok (k := 1) (N := ["self", "block"]) (n := 2) (m := b_layout_brake) F sc_layout_brake rfl fun cdv A0 outer s H E Fb hr => ?_
    exact (mss_cons (ms_expr (me_meth (at_layout_check_block A) (A.cls 1) (hr.mono (by decide)) (me_var 0) (ml_cons (me_var 1) ml_nil) (len_cons len_nil))) (mss_one (ms_ret (me_ix (ME.toB (me_fld 20 3 (A.cls 1) (A.noat 29) (me_var 0))) (ME.toB (me_var 1))))))
  exact ⟨(He.fAd K ("Layout", some "brake")), fd, ["self", "block"], z, hk, hb⟩
theorem sc_faults : FnScope ["layout", "train", "limits", "least", "greatest", "found", "block", "begin", "brake"] ["layout", "train"] (defScope s_faults) := ⟨rfl, rfl, rfl, by decide +kernel, rfl, by decide +kernel, by decide +kernel⟩
theorem at_faults (A : Wt fa fn xs K mg) : FnAt P w K mg base (ct K) 6 "faults" 2 m_faults := by
  obtain ⟨fd, F⟩ := A.def_ 16 (d := d_faults) rfl
  have F : FunD K "faults" "faults" (defArgs s_faults) (defBody s_faults) (defScope s_faults) [] [] (He.fAd K ("faults", none)) fd := F
  have hb : Binds K fd ["layout", "train"] [] := binds_n F fun _ _ _ _ _ _ us hl => match us, hl with | [_, _], _ => rfl
  have hg : mg "faults" = some (.ref (He.ga K "faults")) := A.glo 55
  have hg : mg "faults" = some (.ref (He.fAd K ("faults", none))) := hg
  have hk := F.kp
  have z : FnOk P w K mg base (L2.CX P w) (5 + 1) (He.fAd K ("faults", none)) fd ["layout", "train"] (spD K (ct K) 2 (runD 9 b_faults)) := by
    refine fn_ok (k := 5) (N := ["layout", "train", "limits", "least", "greatest", "found", "block", "begin", "brake"]) (n := 2) (m := b_faults) F sc_faults rfl fun cdv A0 outer s H E Fb hr => ?_
    exact (mss_cons (ms_set 2 sc_faults.nd (me_call (at_envelope A) (hr.mono (by decide)) (ml_cons (me_var 0) (ml_cons (me_var 1) ml_nil)) (len_cons (len_cons len_nil)))) (mss_cons (ms_set 3 sc_faults.nd (me_call (at_least_energies A) (hr.mono (by decide)) (ml_cons (me_var 0) (ml_cons (me_var 1) ml_nil)) (len_cons (len_cons len_nil)))) (mss_cons (ms_set 4 sc_faults.nd (me_call (at_greatest_energies A) (hr.mono (by decide)) (ml_cons (me_var 0) (ml_cons (me_var 1) ml_nil)) (len_cons (len_cons len_nil)))) (mss_cons (ms_setO 5 sc_faults.nd (mf_lst ml_nil)) (mss_cons (ms_for (vs := [6]) (passes_of rfl) rfl (mi_range1 (A.free 13) (ml_cons (me_meth0 (at_layout_blocks A) (A.cls 1) (hr.mono (by decide)) (me_var 0)) ml_nil)) (mg_name 6 sc_faults.nd) (mss_cons (ms_set 7 sc_faults.nd (me_meth (at_layout_begin A) (A.cls 1) (hr.mono (by decide)) (me_var 0) (ml_cons (me_var 6) ml_nil) (len_cons len_nil))) (mss_cons (ms_set 8 sc_faults.nd (me_meth (at_layout_brake A) (A.cls 1) (hr.mono (by decide)) (me_var 0) (ml_cons (me_var 6) ml_nil) (len_cons len_nil))) (mss_cons (ms_if (mt_cmp om_lt (ME.toB (me_bin om_sub (ME.toB (me_var 8)) (ME.toB (me_var 7)))) (ME.toB (me_fld 21 0 (A.cls 6) (A.noat 15) (me_var 1)))) (mss_one (ms_lw 5 lw_append (ml_cons (me_tup (ml_cons me_str (ml_cons (me_var 6) ml_nil))) ml_nil) (hpe := fun h h0 h1 => pe_bm PySem.F.plainAttrs_list PySem.F.slot_list_append PySem.F.type_list_append h h0 h1))) mss_nil) (mss_cons (ms_if (mt_cmp (om_eq (hr).units) (ME.toB (me_bi (cm_minD2 rfl) (A.free 16) (by decide +kernel) (mlb_cons (ME.toB (me_slice (ME.toB (me_var 3)) (mo_some (ME.toB (me_var 7))) (mo_some (ME.toB (me_bin om_add (ME.toB (me_var 8)) (ME.toB me_int)))))) mlb_nil))) (ME.toB me_int)) (mss_one (ms_lw 5 lw_append (ml_cons (me_tup (ml_cons me_str (ml_cons (me_var 6) ml_nil))) ml_nil) (hpe := fun h h0 h1 => pe_bm PySem.F.plainAttrs_list PySem.F.slot_list_append PySem.F.type_list_append h h0 h1))) mss_nil) (mss_one (ms_if (mt_cmp om_gt (ME.toB (me_ix (ME.toB (me_var 4)) (ME.toB (me_var 8)))) (ME.toB (me_ix (ME.toB (me_var 2)) (ME.toB (me_var 8))))) (mss_one (ms_lw 5 lw_append (ml_cons (me_tup (ml_cons me_str (ml_cons (me_var 6) ml_nil))) ml_nil) (hpe := fun h h0 h1 => pe_bm PySem.F.plainAttrs_list PySem.F.slot_list_append PySem.F.type_list_append h h0 h1))) mss_nil))))))) (mss_frz 5 (mss_one (ms_ret (me_var 5)))))))))
  exact ⟨(He.fAd K ("faults", none)), fd, ["layout", "train"], z, hg, hk, hb⟩
theorem sc_check_segments : FnScope ["segments", "kind", "length", "slope", "_"] ["segments"] (defScope s_check_segments) := ⟨rfl, rfl, rfl, by decide +kernel, rfl, by decide +kernel, by decide +kernel⟩
theorem at_check_segments (A : Wt fa fn xs K mg) : FnAt P w K mg base (ct K) 1 "check_segments" 1 m_check_segments := by
  obtain ⟨fd, F⟩ := A.def_ 17 (d := d_check_segments) rfl
  have F : FunD K "check_segments" "check_segments" (defArgs s_check_segments) (defBody s_check_segments) (defScope s_check_segments) [] [] (He.fAd K ("check_segments", none)) fd := F
  have hb : Binds K fd ["segments"] [] := binds_n F fun _ _ _ _ _ _ us hl => match us, hl with | [_], _ => rfl
  have hg : mg "check_segments" = some (.ref (He.ga K "check_segments")) := A.glo 56
  have hg : mg "check_segments" = some (.ref (He.fAd K ("check_segments", none))) := hg
  have hk := F.kp
  have z : FnOk P w K mg base (L2.CX P w) (0 + 1) (He.fAd K ("check_segments", none)) fd ["segments"] (spD K (ct K) 1 (runD 5 b_check_segments)) := by
    refine fn_ok (k := 0) (N := ["segments", "kind", "length", "slope", "_"]) (n := 1) (m := b_check_segments) F sc_check_segments rfl fun cdv A0 outer s H E Fb hr => ?_
    exact (mss_cons (ms_for (vs := [1, 2, 3]) (passes_of rfl) rfl (mi_seq (me_var 0)) (mg_seq rfl (mgs_cons (mg_name 1 sc_check_segments.nd) (mgs_cons (mg_name 2 sc_check_segments.nd) (mgs_cons (mg_name 3 sc_check_segments.nd) mgs_nil))) (glen_cons (glen_cons (glen_cons glen_nil)))) (mss_one (ms_if (MW.toT (mw_or (mt_cmp om_notin (ME.toB (me_var 1)) (ME.toB (me_glo (A.tup (ds := [(.str "coast"), (.str "lift"), (.str "brake")]) (dv := [.str "coast", .str "lift", .str "brake"]) 0 17 (hr := fun _ _ => ⟨_, _, rfl, rfl, ⟨_, _, rfl, rfl, ⟨_, _, rfl, rfl, rfl⟩⟩⟩))))) (mw_or (mt_not (mt_chain om_le om_le (ME.toB me_int) (ME.toB (me_var 2)) (ME.toB (me_glo (A.int 18))))) (mw_or1 (mt_not (mt_chain om_le om_le (ME.toB (me_neg (ME.toB (me_glo (A.int 19))))) (ME.toB (me_var 3)) (ME.toB (me_glo (A.int 19))))))))) (mss_one (ms_raise rfl (A.exc 20 21))) mss_nil))) (mss_cons (ms_if (mt_cmp om_gt (ME.toB (me_bi (cm_sum rfl) (A.free 22) (by decide +kernel) (mlb_cons (ME.toB (MF.toE (mf_comp (own := [("_", 4), ("length", 2), ("_", 4)]) rfl sc_check_segments.nd (MI.b (mi_seq (me_var 0))) (blkOk_by (by kernel_rfl)) (fun _ _ _ _ _ _ => (mg_seq rfl (mgs_cons (mg_name 4 sc_check_segments.nd) (mgs_cons (mg_name 2 sc_check_segments.nd) (mgs_cons (mg_name 4 sc_check_segments.nd) mgs_nil))) (glen_cons (glen_cons (glen_cons glen_nil))))) (fun _ _ _ _ _ _ => mts_nil) (fun _ _ _ _ _ _ => (me_var 2))))) mlb_nil))) (ME.toB (me_glo (A.int 23)))) (mss_one (ms_raise rfl (A.exc 20 21))) mss_nil) (mss_cons (ms_if (mt_cmp (om_ne (hr).units) (ME.toB (me_bi (cm_sum rfl) (A.free 22) (by decide +kernel) (mlb_cons (ME.toB (MF.toE (mf_comp (own := [("_", 4), ("length", 2), ("slope", 3)]) rfl sc_check_segments.nd (MI.b (mi_seq (me_var 0))) (blkOk_by (by kernel_rfl)) (fun _ _ _ _ _ _ => (mg_seq rfl (mgs_cons (mg_name 4 sc_check_segments.nd) (mgs_cons (mg_name 2 sc_check_segments.nd) (mgs_cons (mg_name 3 sc_check_segments.nd) mgs_nil))) (glen_cons (glen_cons (glen_cons glen_nil))))) (fun _ _ _ _ _ _ => mts_nil) (fun _ _ _ _ _ _ => (me_bin om_mul (ME.toB (me_var 2)) (ME.toB (me_var 3))))))) mlb_nil))) (ME.toB me_int)) (mss_one (ms_raise rfl (A.exc 20 21))) mss_nil) (mss_cons (ms_if (MW.toT (mw_or (mt_cmp (om_eq (hr).units) (ME.toB (me_bi cm_len (A.free 0) (by decide +kernel) (mlb_cons (ME.toB (me_var 0)) mlb_nil))) (ME.toB me_int)) (mw_or1 (mt_cmp (om_ne (hr).units) (ME.toB (me_ix (ME.toB (me_ix (ME.toB (me_var 0)) (ME.toB (me_neg (ME.toB me_int))))) (ME.toB me_int))) (ME.toB me_str))))) (mss_one (ms_raise rfl (A.exc 20 21))) mss_nil) (mss_one (ms_if (mt_not (mt_chain om_le om_le (ME.toB me_int) (ME.toB (me_bi cm_len (A.free 0) (by decide +kernel) (mlb_cons (ME.toB (MF.toE (mf_comp (own := [("kind", 1), ("_", 4), ("_", 4)]) rfl sc_check_segments.nd (MI.b (mi_seq (me_var 0))) (blkOk_by (by kernel_rfl)) (fun _ _ _ _ _ _ => (mg_seq rfl (mgs_cons (mg_name 1 sc_check_segments.nd) (mgs_cons (mg_name 4 sc_check_segments.nd) (mgs_cons (mg_name 4 sc_check_segments.nd) mgs_nil))) (glen_cons (glen_cons (glen_cons glen_nil))))) (fun _ _ _ _ _ _ => (mts_one (mt_cmp (om_eq (hr).units) (ME.toB (me_var 1)) (ME.toB me_str)))) (fun _ _ _ _ _ _ => (me_var 1))))) mlb_nil))) (ME.toB (me_glo (A.int 24))))) (mss_one (ms_raise rfl (A.exc 20 21))) mss_nil))))))
  exact ⟨(He.fAd K ("check_segments", none)), fd, ["segments"], z, hg, hk, hb⟩
theorem sc_layout_init : FnScope ["self", "segments", "kind", "length", "slope", "block", "_"] ["self", "segments"] (defScope s_layout_init) := ⟨rfl, rfl, rfl, by decide +kernel, rfl, by decide +kernel, by decide +kernel⟩
theorem at_layout_init (A : Wt fa fn xs K mg) : MkAt P w K mg base (ct K) 2 20 "Layout" 1 m_layout_init := by
  obtain ⟨fd, F⟩ := A.def_ 18 (d := d_layout_init) rfl
  have F : FunD K "__init__" "Layout.__init__" (defArgs s_layout_init) (defBody s_layout_init) (defScope s_layout_init) [] [] (He.fAd K ("Layout", some "__init__")) fd := F
  have hb : Binds K fd ["self", "segments"] [] := binds_n F fun _ _ _ _ _ _ us hl => match us, hl with | [_, _], _ => rfl
  have hg : mg "Layout" = some (.ref (He.ga K "Layout")) := A.glo 57
  have hk : Mk K (He.ga K "Layout") (He.ma K (He.ga K "Layout") "__init__") := A.mkr 58
  have hk : Mk K (He.ga K "Layout") (He.fAd K ("Layout", some "__init__")) := hk
  have z : FnOk P w K mg base (L2.CX P w) (1 + 1) (He.fAd K ("Layout", some "__init__")) fd ["self", "segments"] (spI K (ct K) 20 1 (runI 7 20 b_layout_init)) := by
    refine init_ok (k := 1) (N := ["self", "segments", "kind", "length", "slope", "block", "_"]) (n := 1) (c := 20) (m := b_layout_init) F sc_layout_init rfl fun cdv A0 outer s H E Fb hr => ?_
    exact (mss_cons (ms_expr (me_call (at_check_segments A) (hr.mono (by decide)) (ml_cons (me_var 1) ml_nil) (len_cons len_nil))) (mss_cons (ms_selfSet 0 20 (A.cls 1) (A.noat 25) (me_bty cm_tup (A.free 26) (by decide +kernel) (mlb_cons (ME.toB (me_var 1)) mlb_nil))) (mss_cons (ms_selfSetO 0 20 (A.cls 1) (A.noat 27) (mf_lst ml_nil)) (mss_cons (ms_selfSetO 0 20 (A.cls 1) (A.noat 28) (mf_lst (ml_cons me_int ml_nil))) (mss_cons (ms_selfSetO 0 20 (A.cls 1) (A.noat 29) (mf_lst ml_nil)) (mss_cons (ms_selfSetO 0 20 (A.cls 1) (A.noat 30) (mf_lst (ml_cons me_int ml_nil))) (mss_one (ms_for (vs := [2, 3, 4]) (passes_of rfl) rfl (mi_seq (me_var 1)) (mg_seq rfl (mgs_cons (mg_name 2 sc_layout_init.nd) (mgs_cons (mg_name 3 sc_layout_init.nd) (mgs_cons (mg_name 4 sc_layout_init.nd) mgs_nil))) (glen_cons (glen_cons (glen_cons glen_nil)))) (mss_cons (ms_if (mt_cmp (om_eq (hr).units) (ME.toB (me_var 2)) (ME.toB me_str)) (mss_one (ms_selfLw 0 20 (A.cls 1) (A.noat 29) lw_append (ml_cons (me_bi cm_len (A.free 0) (by decide +kernel) (mlb_cons (mb_self 0 20 (A.cls 1) (A.noat 27)) mlb_nil)) ml_nil) (fun h h0 h1 => pe_bm PySem.F.plainAttrs_list PySem.F.slot_list_append PySem.F.type_list_append h h0 h1))) mss_nil) (mss_cons (ms_set 5 sc_layout_init.nd (me_bin om_sub (ME.toB (me_bi cm_len (A.free 0) (by decide +kernel) (mlb_cons (mb_self 0 20 (A.cls 1) (A.noat 28)) mlb_nil))) (ME.toB me_int))) (mss_cons (ms_for (vs := [6]) (passes_of rfl) rfl (mi_range1 (A.free 13) (ml_cons (me_var 3) ml_nil)) (mg_name 6 sc_layout_init.nd) (mss_cons (ms_selfLw 0 20 (A.cls 1) (A.noat 27) lw_append (ml_cons (me_tup (ml_cons (me_var 2) (ml_cons (me_var 4) (ml_cons (me_var 5) ml_nil)))) ml_nil) (fun h h0 h1 => pe_bm PySem.F.plainAttrs_list PySem.F.slot_list_append PySem.F.type_list_append h h0 h1)) (mss_one (ms_selfLw 0 20 (A.cls 1) (A.noat 30) lw_append (ml_cons (me_bin om_add (ME.toB (me_ix (mb_self 0 20 (A.cls 1) (A.noat 30)) (ME.toB (me_neg (ME.toB me_int))))) (ME.toB (me_var 4))) ml_nil) (fun h h0 h1 => pe_bm PySem.F.plainAttrs_list PySem.F.slot_list_append PySem.F.type_list_append h h0 h1))))) (mss_one (ms_if (mt_cmp (om_eq (hr).units) (ME.toB (me_var 2)) (ME.toB me_str)) (mss_one (ms_selfLw 0 20 (A.cls 1) (A.noat 28) lw_append (ml_cons (me_bi cm_len (A.free 0) (by decide +kernel) (mlb_cons (mb_self 0 20 (A.cls 1) (A.noat 27)) mlb_nil)) ml_nil) (fun h h0 h1 => pe_bm PySem.F.plainAttrs_list PySem.F.slot_list_append PySem.F.type_list_append h h0 h1))) mss_nil)))))))))))))
  exact ⟨(He.fAd K ("Layout", some "__init__")), fd, ["self", "segments"], z, hg, hk, hb⟩
theorem sc_layout_height : FnScope ["self", "number"] ["self", "number"] (defScope s_layout_height) := ⟨rfl, rfl, rfl, by decide +kernel, rfl, by decide +kernel, by decide +kernel⟩
theorem at_layout_height (A : Wt fa fn xs K mg) : MthAt P w K mg base (ct K) 2 20 "height" 1 m_layout_height := by
  obtain ⟨fd, F⟩ := A.def_ 19 (d := d_layout_height) rfl
  have F : FunD K "height" "Layout.height" (defArgs s_layout_height) (defBody s_layout_height) (defScope s_layout_height) [] [] (He.fAd K ("Layout", some "height")) fd := F
  have hb : Binds K fd ["self", "number"] [] := binds_n F fun _ _ _ _ _ _ us hl => match us, hl with | [_, _], _ => rfl
  have hk : Meth K (He.ga K "Layout") "height" (He.ma K (He.ga K "Layout") "height") := A.meth 59
  have hk : Meth K (He.ga K "Layout") "height" (He.fAd K ("Layout", some "height")) := hk
  have z : FnOk P w K mg base (L2.CX P w) (1 + 1) (He.fAd K ("Layout", some "height")) fd ["self", "number"] (spD K (ct K) 2 (runD 2 b_layout_height)) := by
    refine fn_ok (k := 1) (N := ["self", "number"]) (n := 2) (m := b_layout_height) F sc_layout_height rfl fun cdv A0 outer s H E Fb hr => ?_
    exact (mss_cons (ms_expr (me_meth (at_layout_check_metre A) (A.cls 1) (hr.mono (by decide)) (me_var 0) (ml_cons (me_var 1) ml_nil) (len_cons len_nil))) (mss_one (ms_ret (me_ix (ME.toB (me_fld 20 4 (A.cls 1) (A.noat 30) (me_var 0))) (ME.toB (me_var 1))))))
  exact ⟨(He.fAd K ("Layout", some "height")), fd, ["self", "number"], z, hk, hb⟩
theorem sc_train_init : FnScope ["self", "length", "friction", "brake", "lift", "drive"] ["self", "length", "friction", "brake", "lift", "drive"] (defScope s_train_init) := ⟨rfl, rfl, rfl, by decide +kernel, rfl, by decide +kernel, by decide +kernel⟩
theorem at_train_init (A : Wt fa fn xs K mg) : MkAt P w K mg base (ct K) 2 21 "Train" 5 m_train_init := by
  obtain ⟨fd, F⟩ := A.def_ 20 (d := d_train_init) rfl
  have F : FunD K "__init__" "Train.__init__" (defArgs s_train_init) (defBody s_train_init) (defScope s_train_init) [] [] (He.fAd K ("Train", some "__init__")) fd := F
  have hb : Binds K fd ["self", "length", "friction", "brake", "lift", "drive"] [] := binds_n F fun _ _ _ _ _ _ us hl => match us, hl with | [_, _, _, _, _, _], _ => rfl
  have hg : mg "Train" = some (.ref (He.ga K "Train")) := A.glo 60
  have hk : Mk K (He.ga K "Train") (He.ma K (He.ga K "Train") "__init__") := A.mkr 61
  have hk : Mk K (He.ga K "Train") (He.fAd K ("Train", some "__init__")) := hk
  have z : FnOk P w K mg base (L2.CX P w) (1 + 1) (He.fAd K ("Train", some "__init__")) fd ["self", "length", "friction", "brake", "lift", "drive"] (spI K (ct K) 21 5 (runI 6 21 b_train_init)) := by
    refine init_ok (k := 1) (N := ["self", "length", "friction", "brake", "lift", "drive"]) (n := 5) (c := 21) (m := b_train_init) F sc_train_init rfl fun cdv A0 outer s H E Fb hr => ?_
    exact (mss_cons (ms_if (mt_not (mt_chain om_le om_le (ME.toB me_int) (ME.toB (me_var 1)) (ME.toB (me_glo (A.int 31))))) (mss_one (ms_raise rfl (A.exc 32 33))) mss_nil) (mss_cons (ms_if (MW.toT (mw_or (mt_not (mt_val (me_call (at_is_interval A) (hr.mono (by decide)) (ml_cons (me_var 2) ml_nil) (len_cons len_nil)))) (mw_or (mt_cmp om_lt (ME.toB (me_ix (ME.toB (me_var 2)) (ME.toB me_int))) (ME.toB me_int)) (mw_or1 (mt_cmp om_gt (ME.toB (me_ix (ME.toB (me_var 2)) (ME.toB me_int))) (ME.toB (me_glo (A.int 34)))))))) (mss_one (ms_raise rfl (A.exc 32 33))) mss_nil) (mss_cons (ms_if (MW.toT (mw_or (mt_not (mt_val (me_call (at_is_interval A) (hr.mono (by decide)) (ml_cons (me_var 3) ml_nil) (len_cons len_nil)))) (mw_or (mt_cmp om_lt (ME.toB (me_ix (ME.toB (me_var 3)) (ME.toB me_int))) (ME.toB me_int)) (mw_or1 (mt_cmp om_gt (ME.toB (me_ix (ME.toB (me_var 3)) (ME.toB me_int))) (ME.toB (me_glo (A.int 35)))))))) (mss_one (ms_raise rfl (A.exc 32 33))) mss_nil) (mss_cons (ms_if (MW.toT (mw_or (mt_not (mt_chain om_le om_le (ME.toB me_int) (ME.toB (me_var 4)) (ME.toB (me_glo (A.int 36))))) (mw_or1 (mt_not (mt_chain om_le om_le (ME.toB me_int) (ME.toB (me_var 5)) (ME.toB (me_glo (A.int 36)))))))) (mss_one (ms_raise rfl (A.exc 32 33))) mss_nil) (mss_cons (ms_selfSet 0 21 (A.cls 6) (A.noat 15) (me_var 1)) (mss_cons (ms_selfSet 0 21 (A.cls 6) (A.noat 12) (me_var 2)) (mss_cons (ms_selfSet 0 21 (A.cls 6) (A.noat 14) (me_var 3)) (mss_cons (ms_selfSet 0 21 (A.cls 6) (A.noat 7) (me_var 4)) (mss_one (ms_selfSet 0 21 (A.cls 6) (A.noat 8) (me_var 5)))))))))))
  exact ⟨(He.fAd K ("Train", some "__init__")), fd, ["self", "length", "friction", "brake", "lift", "drive"], z, hg, hk, hb⟩
theorem sc_law_cell : FnScope ["script", "k"] ["script", "k"] (defScope s_law_cell) := ⟨rfl, rfl, rfl, by decide +kernel, rfl, by decide +kernel, by decide +kernel⟩
theorem at_law_cell (A : Wt fa fn xs K mg) : FnAt P w K mg base (ct K) 1 "_law_cell" 2 m_law_cell := by
  obtain ⟨fd, F⟩ := A.def_ 21 (d := d_law_cell) rfl
  have F : FunD K "_law_cell" "_law_cell" (defArgs s_law_cell) (defBody s_law_cell) (defScope s_law_cell) [] [] (He.fAd K ("_law_cell", none)) fd := F
  have hb : Binds K fd ["script", "k"] [] := binds_n F fun _ _ _ _ _ _ us hl => match us, hl with | [_, _], _ => rfl
  have hg : mg "_law_cell" = some (.ref (He.ga K "_law_cell")) := A.glo 62
  have hg : mg "_law_cell" = some (.ref (He.fAd K ("_law_cell", none))) := hg
  have hk := F.kp
  have z : FnOk P w K mg base (L2.CX P w) (0 + 1) (He.fAd K ("_law_cell", none)) fd ["script", "k"] (spD K (ct K) 2 (runD 2 b_law_cell)) := by
    refine fn_ok (k := 0) (N := ["script", "k"]) (n := 2) (m := b_law_cell) F sc_law_cell rfl fun cdv A0 outer s H E Fb hr => ?_
    exact (mss_cons (ms_if (mt_cmp om_lt (ME.toB (me_var 1)) (ME.toB (me_bi cm_len (A.free 0) (by decide +kernel) (mlb_cons (ME.toB (me_var 0)) mlb_nil)))) (mss_one (ms_ret (me_bi cm_abs (A.free 37) (by decide +kernel) (mlb_cons (ME.toB (me_bty cm_int (A.free 38) (by decide +kernel) (mlb_cons (ME.toB (me_ix (ME.toB (me_var 0)) (ME.toB (me_var 1)))) mlb_nil))) mlb_nil)))) mss_nil) (mss_one (ms_ret me_int)))
  exact ⟨(He.fAd K ("_law_cell", none)), fd, ["script", "k"], z, hg, hk, hb⟩
theorem sc_law_draws : FnScope ["cell", "count", "rows", "left", "k", "mixed"] ["cell", "count"] (defScope s_law_draws) := ⟨rfl, rfl, rfl, by decide +kernel, rfl, by decide +kernel, by decide +kernel⟩
theorem at_law_draws (A : Wt fa fn xs K mg) : FnAt P w K mg base (ct K) 1 "_law_draws" 2 m_law_draws := by
  obtain ⟨fd, F⟩ := A.def_ 22 (d := d_law_draws) rfl
  have F : FunD K "_law_draws" "_law_draws" (defArgs s_law_draws) (defBody s_law_draws) (defScope s_law_draws) [] [] (He.fAd K ("_law_draws", none)) fd := F
  have hb : Binds K fd ["cell", "count"] [] := binds_n F fun _ _ _ _ _ _ us hl => match us, hl with | [_, _], _ => rfl
  have hg : mg "_law_draws" = some (.ref (He.ga K "_law_draws")) := A.glo 63
  have hg : mg "_law_draws" = some (.ref (He.fAd K ("_law_draws", none))) := hg
  have hk := F.kp
  have z : FnOk P w K mg base (L2.CX P w) (0 + 1) (He.fAd K ("_law_draws", none)) fd ["cell", "count"] (spD K (ct K) 2 (runD 6 b_law_draws)) := by
    refine fn_ok (k := 0) (N := ["cell", "count", "rows", "left", "k", "mixed"]) (n := 2) (m := b_law_draws) F sc_law_draws rfl fun cdv A0 outer s H E Fb hr => ?_
    exact (mss_cons (ms_setO 2 sc_law_draws.nd (mf_lst ml_nil)) (mss_cons (ms_set 3 sc_law_draws.nd (me_var 0)) (mss_cons (ms_for (vs := [4]) (passes_of rfl) rfl (mi_range1 (A.free 13) (ml_cons (me_var 1) ml_nil)) (mg_name 4 sc_law_draws.nd) (mss_one (ms_if (MW.toT (mw_and (mt_cmp om_ge (ME.toB (me_var 0)) (ME.toB (me_bin om_pow (ME.toB me_int) (ME.toB me_int)))) (mw_and1 (mt_cmp om_gt (ME.toB (me_var 3)) (ME.toB me_int))))) (mss_cons (ms_lw 2 lw_append (ml_cons (me_bin om_mod (ME.toB (me_bty cm_int (A.free 38) (by decide +kernel) (mlb_cons (ME.toB (me_var 3)) mlb_nil))) (ME.toB me_int)) ml_nil) (hpe := fun h h0 h1 => pe_bm PySem.F.plainAttrs_list PySem.F.slot_list_append PySem.F.type_list_append h h0 h1)) (mss_one (ms_set 3 sc_law_draws.nd (me_bin om_fdiv (ME.toB (me_var 3)) (ME.toB me_int))))) (mss_cons (ms_set 5 sc_law_draws.nd (me_bin om_mod (ME.toB (me_bty cm_int (A.free 38) (by decide +kernel) (mlb_cons (ME.toB (me_bin om_add (ME.toB (me_bin om_mul (ME.toB (me_var 0)) (ME.toB me_int))) (ME.toB (me_bin om_mul (ME.toB (me_bin om_add (ME.toB (me_var 4)) (ME.toB me_int))) (ME.toB me_int))))) mlb_nil))) (ME.toB me_int))) (mss_cons (ms_set 5 sc_law_draws.nd (me_bin om_mod (ME.toB (me_bty cm_int (A.free 38) (by decide +kernel) (mlb_cons (ME.toB (me_bin om_add (ME.toB (me_bin om_add (ME.toB (me_bin om_mul (ME.toB (me_var 5)) (ME.toB (me_var 5)))) (ME.toB (me_bin om_mul (ME.toB (me_var 5)) (ME.toB me_int))))) (ME.toB (me_bin om_mul (ME.toB (me_var 4)) (ME.toB me_int))))) mlb_nil))) (ME.toB me_int))) (mss_cons (ms_set 5 sc_law_draws.nd (me_bin om_mod (ME.toB (me_bty cm_int (A.free 38) (by decide +kernel) (mlb_cons (ME.toB (me_bin om_add (ME.toB (me_bin om_add (ME.toB (me_bin om_mul (ME.toB (me_var 5)) (ME.toB (me_var 5)))) (ME.toB (me_var 0)))) (ME.toB (me_bin om_mul (ME.toB me_int) (ME.toB (me_var 4)))))) mlb_nil))) (ME.toB me_int))) (mss_one (ms_lw 2 lw_append (ml_cons (me_bin om_mod (ME.toB (me_bin om_fdiv (ME.toB (me_var 5)) (ME.toB me_int))) (ME.toB me_int)) ml_nil) (hpe := fun h h0 h1 => pe_bm PySem.F.plainAttrs_list PySem.F.slot_list_append PySem.F.type_list_append h h0 h1))))))))) (mss_frz 2 (mss_one (ms_ret (me_var 2)))))))
  exact ⟨(He.fAd K ("_law_draws", none)), fd, ["cell", "count"], z, hg, hk, hb⟩
theorem sc_law_drawn_segments : FnScope ["draws", "most", "count", "rows", "height", "block", "left", "k", "tilt", "draw", "kind", "slope", "length"] ["draws", "most"] (defScope s_law_drawn_segments) := ⟨rfl, rfl, rfl, by decide +kernel, rfl, by decide +kernel, by decide +kernel⟩
theorem at_law_drawn_segments (A : Wt fa fn xs K mg) : FnAt P w K mg base (ct K) 1 "_law_drawn_segments" 2 m_law_drawn_segments := by
  obtain ⟨fd, F⟩ := A.def_ 23 (d := d_law_drawn_segments) rfl
  have F : FunD K "_law_drawn_segments" "_law_drawn_segments" (defArgs s_law_drawn_segments) (defBody s_law_drawn_segments) (defScope s_law_drawn_segments) [] [] (He.fAd K ("_law_drawn_segments", none)) fd := F
  have hb : Binds K fd ["draws", "most"] [] := binds_n F fun _ _ _ _ _ _ us hl => match us, hl with | [_, _], _ => rfl
  have hg : mg "_law_drawn_segments" = some (.ref (He.ga K "_law_drawn_segments")) := A.glo 64
  have hg : mg "_law_drawn_segments" = some (.ref (He.fAd K ("_law_drawn_segments", none))) := hg
  have hk := F.kp
  have z : FnOk P w K mg base (L2.CX P w) (0 + 1) (He.fAd K ("_law_drawn_segments", none)) fd ["draws", "most"] (spD K (ct K) 2 (runD 13 b_law_drawn_segments)) := by
    refine fn_ok (k := 0) (N := ["draws", "most", "count", "rows", "height", "block", "left", "k", "tilt", "draw", "kind", "slope", "length"]) (n := 2) (m := b_law_drawn_segments) F sc_law_drawn_segments rfl fun cdv A0 outer s H E Fb hr => ?_
    exact (mss_cons (ms_set 2 sc_law_drawn_segments.nd (me_bin om_add (ME.toB me_int) (ME.toB (me_bin om_mod (ME.toB (me_ix (ME.toB (me_var 0)) (ME.toB me_int))) (ME.toB me_int))))) (mss_cons (ms_setO 3 sc_law_drawn_segments.nd (mf_lst ml_nil)) (mss_cons (ms_set 4 sc_law_drawn_segments.nd me_int) (mss_cons (ms_for (vs := [5]) (passes_of rfl) rfl (mi_range1 (A.free 13) (ml_cons (me_var 2) ml_nil)) (mg_name 5 sc_law_drawn_segments.nd) (mss_cons (ms_for (vs := [7]) (passes_of rfl) rfl (mi_range1 (A.free 13) (ml_cons (me_bin om_mod (ME.toB (me_ix (ME.toB (me_var 0)) (ME.toB (me_bin om_add (ME.toB me_int) (ME.toB (me_var 5)))))) (ME.toB me_int)) ml_nil)) (mg_name 7 sc_law_drawn_segments.nd) (mss_cons (ms_set 9 sc_law_drawn_segments.nd (me_ix (ME.toB (me_var 0)) (ME.toB (me_bin om_add (ME.toB (me_bin om_add (ME.toB me_int) (ME.toB (me_bin om_mul (ME.toB me_int) (ME.toB (me_var 5)))))) (ME.toB (me_var 7)))))) (mss_cons (ms_set 10 sc_law_drawn_segments.nd (me_ix (ME.toB (MF.toE (mf_lst (ml_cons me_str (ml_cons me_str (ml_cons me_str ml_nil)))))) (ME.toB (me_bin om_mod (ME.toB (me_var 9)) (ME.toB me_int))))) (mss_cons (ms_set 11 sc_law_drawn_segments.nd (me_bin om_sub (ME.toB (me_bin om_mod (ME.toB (me_bin om_fdiv (ME.toB (me_var 9)) (ME.toB me_int))) (ME.toB me_int))) (ME.toB me_int))) (mss_cons (ms_set 12 sc_law_drawn_segments.nd (me_bin om_add (ME.toB me_int) (ME.toB (me_bin om_mod (ME.toB (me_bin om_fdiv (ME.toB (me_var 9)) (ME.toB me_int))) (ME.toB (me_var 1)))))) (mss_cons (ms_lw 3 lw_append (ml_cons (me_tup (ml_cons (me_var 10) (ml_cons (me_var 12) (ml_cons (me_var 11) ml_nil)))) ml_nil) (hpe := fun h h0 h1 => pe_bm PySem.F.plainAttrs_list PySem.F.slot_list_append PySem.F.type_list_append h h0 h1)) (mss_one (ms_set 4 sc_law_drawn_segments.nd (me_bin om_add (ME.toB (me_var 4)) (ME.toB (me_bin om_mul (ME.toB (me_var 12)) (ME.toB (me_var 11))))))))))))) (mss_cons (ms_set 8 sc_law_drawn_segments.nd (me_bin om_sub (ME.toB (me_bin om_mod (ME.toB (me_ix (ME.toB (me_var 0)) (ME.toB (me_bin om_add (ME.toB me_int) (ME.toB (me_var 5)))))) (ME.toB me_int))) (ME.toB me_int))) (mss_cons (ms_lw 3 lw_append (ml_cons (me_tup (ml_cons me_str (ml_cons (me_bin om_add (ME.toB me_int) (ME.toB (me_bin om_mod (ME.toB (me_ix (ME.toB (me_var 0)) (ME.toB (me_bin om_add (ME.toB me_int) (ME.toB (me_var 5)))))) (ME.toB me_int)))) (ml_cons (me_var 8) ml_nil)))) ml_nil) (hpe := fun h h0 h1 => pe_bm PySem.F.plainAttrs_list PySem.F.slot_list_append PySem.F.type_list_append h h0 h1)) (mss_one (ms_set 4 sc_law_drawn_segments.nd (me_bin om_add (ME.toB (me_var 4)) (ME.toB (me_bin om_mul (ME.toB (me_ix (ME.toB (me_ix (mb_var 3) (ME.toB (me_neg (ME.toB me_int))))) (ME.toB me_int))) (ME.toB (me_var 8))))))))))) (mss_cons (ms_lw 3 lw_insert (ml_cons (me_bin om_mod (ME.toB (me_ix (ME.toB (me_var 0)) (ME.toB me_int))) (ME.toB (me_bi cm_len (A.free 0) (by decide +kernel) (mlb_cons (mb_var 3) mlb_nil)))) (ml_cons (me_tup (ml_cons me_str (ml_cons (me_ix (ME.toB (MF.toE (mf_lst (ml_cons me_int (ml_cons me_int (ml_cons me_int (ml_cons me_int (ml_cons me_int ml_nil)))))))) (ME.toB (me_bin om_mod (ME.toB (me_ix (ME.toB (me_var 0)) (ME.toB me_int))) (ME.toB me_int)))) (ml_cons me_int ml_nil)))) ml_nil)) (hpe := fun h h0 h1 => pe_bm PySem.F.plainAttrs_list PySem.F.slot_list_insert PySem.F.type_list_insert h h0 h1)) (mss_cons (ms_set 6 sc_law_drawn_segments.nd (me_neg (ME.toB (me_var 4)))) (mss_cons (ms_for (vs := [7]) (passes_of rfl) rfl (mi_range1 (A.free 13) (ml_cons me_int ml_nil)) (mg_name 7 sc_law_drawn_segments.nd) (mss_one (ms_if (mt_cmp (om_ne (hr).units) (ME.toB (me_var 6)) (ME.toB me_int)) (mss_cons (ms_set 11 sc_law_drawn_segments.nd (me_bi (cm_max2 rfl) (A.free 5) (by decide +kernel) (mlb_cons (ME.toB (me_neg (ME.toB me_int))) (mlb_cons (ME.toB (me_bi (cm_min2 rfl) (A.free 16) (by decide +kernel) (mlb_cons (ME.toB me_int) (mlb_cons (ME.toB (me_var 6)) mlb_nil)))) mlb_nil)))) (mss_cons (ms_lw 3 lw_insert (ml_cons me_int (ml_cons (me_tup (ml_cons (me_ix (ME.toB (MF.toE (mf_lst (ml_cons (me_ix (ME.toB (me_tup (ml_cons me_str (ml_cons me_str ml_nil)))) (ME.toB (me_bty cm_int (A.free 38) (by decide +kernel) (mlb_cons (ME.toB (me_cmp om_gt (ME.toB (me_var 11)) (ME.toB me_int))) mlb_nil)))) (ml_cons me_str ml_nil))))) (ME.toB (me_bin om_mod (ME.toB (me_ix (ME.toB (me_var 0)) (ME.toB me_int))) (ME.toB me_int)))) (ml_cons me_int (ml_cons (me_var 11) ml_nil)))) ml_nil)) (hpe := fun h h0 h1 => pe_bm PySem.F.plainAttrs_list PySem.F.slot_list_insert PySem.F.type_list_insert h h0 h1)) (mss_one (ms_set 6 sc_law_drawn_segments.nd (me_bin om_sub (ME.toB (me_var 6)) (ME.toB (me_var 11))))))) mss_nil))) (mss_frz 3 (mss_one (ms_ret (me_var 3)))))))))))
  exact ⟨(He.fAd K ("_law_drawn_segments", none)), fd, ["draws", "most"], z, hg, hk, hb⟩
theorem sc_law_drawn_layout : FnScope ["draws", "rows", "height", "kind", "length", "slope"] ["draws"] (defScope s_law_drawn_layout) := ⟨rfl, rfl, rfl, by decide +kernel, rfl, by decide +kernel, by decide +kernel⟩
theorem at_law_drawn_layout (A : Wt fa fn xs K mg) : FnAt P w K mg base (ct K) 2 "_law_drawn_layout" 1 m_law_drawn_layout := by
  obtain ⟨fd, F⟩ := A.def_ 24 (d := d_law_drawn_layout) rfl
  have F : FunD K "_law_drawn_layout" "_law_drawn_layout" (defArgs s_law_drawn_layout) (defBody s_law_drawn_layout) (defScope s_law_drawn_layout) [] [] (He.fAd K ("_law_drawn_layout", none)) fd := F
  have hb : Binds K fd ["draws"] [] := binds_n F fun _ _ _ _ _ _ us hl => match us, hl with | [_], _ => rfl
  have hg : mg "_law_drawn_layout" = some (.ref (He.ga K "_law_drawn_layout")) := A.glo 65
  have hg : mg "_law_drawn_layout" = some (.ref (He.fAd K ("_law_drawn_layout", none))) := hg
  have hk := F.kp
  have z : FnOk P w K mg base (L2.CX P w) (1 + 1) (He.fAd K ("_law_drawn_layout", none)) fd ["draws"] (spD K (ct K) 1 (runD 6 b_law_drawn_layout)) := by
    refine fn_ok (k := 1) (N := ["draws", "rows", "height", "kind", "length", "slope"]) (n := 1) (m := b_law_drawn_layout) F sc_law_drawn_layout rfl fun cdv A0 outer s H E Fb hr => ?_
    exact (mss_cons (ms_set 1 sc_law_drawn_layout.nd (me_call (at_law_drawn_segments A) (hr.mono (by decide)) (ml_cons (me_var 0) (ml_cons me_int ml_nil)) (len_cons (len_cons len_nil)))) (mss_cons (ms_set 2 sc_law_drawn_layout.nd (me_bi (cm_sum rfl) (A.free 22) (by decide +kernel) (mlb_cons (ME.toB (MF.toE (mf_comp (own := [("kind", 3), ("length", 4), ("slope", 5)]) rfl sc_law_drawn_layout.nd (MI.b (mi_seq (me_var 1))) (blkOk_by (by kernel_rfl)) (fun _ _ _ _ _ _ => (mg_seq rfl (mgs_cons (mg_name 3 sc_law_drawn_layout.nd) (mgs_cons (mg_name 4 sc_law_drawn_layout.nd) (mgs_cons (mg_name 5 sc_law_drawn_layout.nd) mgs_nil))) (glen_cons (glen_cons (glen_cons glen_nil))))) (fun _ _ _ _ _ _ => mts_nil) (fun _ _ _ _ _ _ => (me_bin om_mul (ME.toB (me_var 4)) (ME.toB (me_var 5))))))) mlb_nil))) (mss_cons (ms_if (mt_cmp (om_ne (hr).units) (ME.toB (me_var 2)) (ME.toB me_int)) (mss_one (ms_set 1 sc_law_drawn_layout.nd (MF.toE (mf_lst (ml_cons (me_tup (ml_cons me_str (ml_cons me_int (ml_cons me_int ml_nil)))) (ml_cons (me_tup (ml_cons me_str (ml_cons me_int (ml_cons (me_neg (ME.toB me_int)) ml_nil)))) (ml_cons (me_tup (ml_cons me_str (ml_cons me_int (ml_cons me_int ml_nil)))) (ml_cons (me_tup (ml_cons me_str (ml_cons me_int (ml_cons me_int ml_nil)))) (ml_cons (me_tup (ml_cons me_str (ml_cons me_int (ml_cons me_int ml_nil)))) ml_nil))))))))) mss_nil) (mss_one (ms_ret (me_var 1))))))
  exact ⟨(He.fAd K ("_law_drawn_layout", none)), fd, ["draws"], z, hg, hk, hb⟩
theorem sc_law_drawn_train : FnScope ["draws", "rough", "strong"] ["draws"] (defScope s_law_drawn_train) := ⟨rfl, rfl, rfl, by decide +kernel, rfl, by decide +kernel, by decide +kernel⟩
theorem at_law_drawn_train (A : Wt fa fn xs K mg) : FnAt P w K mg base (ct K) 1 "_law_drawn_train" 1 m_law_drawn_train := by
  obtain ⟨fd, F⟩ := A.def_ 25 (d := d_law_drawn_train) rfl
  have F : FunD K "_law_drawn_train" "_law_drawn_train" (defArgs s_law_drawn_train) (defBody s_law_drawn_train) (defScope s_law_drawn_train) [] [] (He.fAd K ("_law_drawn_train", none)) fd := F
  have hb : Binds K fd ["draws"] [] := binds_n F fun _ _ _ _ _ _ us hl => match us, hl with | [_], _ => rfl
  have hg : mg "_law_drawn_train" = some (.ref (He.ga K "_law_drawn_train")) := A.glo 66
  have hg : mg "_law_drawn_train" = some (.ref (He.fAd K ("_law_drawn_train", none))) := hg
  have hk := F.kp
  have z : FnOk P w K mg base (L2.CX P w) (0 + 1) (He.fAd K ("_law_drawn_train", none)) fd ["draws"] (spD K (ct K) 1 (runD 3 b_law_drawn_train)) := by
    refine fn_ok (k := 0) (N := ["draws", "rough", "strong"]) (n := 1) (m := b_law_drawn_train) F sc_law_drawn_train rfl fun cdv A0 outer s H E Fb hr => ?_
    exact (mss_cons (ms_set 1 sc_law_drawn_train.nd (me_bin om_mod (ME.toB (me_ix (ME.toB (me_var 0)) (ME.toB me_int))) (ME.toB me_int))) (mss_cons (ms_set 2 sc_law_drawn_train.nd (me_bin om_add (ME.toB me_int) (ME.toB (me_bin om_mul (ME.toB me_int) (ME.toB (me_ix (ME.toB (me_var 0)) (ME.toB me_int))))))) (mss_one (ms_ret (MF.toE (mf_lst (ml_cons (me_bin om_add (ME.toB me_int) (ME.toB (me_bin om_mod (ME.toB (me_ix (ME.toB (me_var 0)) (ME.toB me_int))) (ME.toB me_int)))) (ml_cons (me_tup (ml_cons (me_var 1) (ml_cons (me_bin om_add (ME.toB (me_var 1)) (ME.toB (me_bin om_mod (ME.toB (me_ix (ME.toB (me_var 0)) (ME.toB me_int))) (ME.toB me_int)))) ml_nil))) (ml_cons (me_tup (ml_cons (me_var 2) (ml_cons (me_bin om_add (ME.toB (me_var 2)) (ME.toB (me_bin om_mul (ME.toB me_int) (ME.toB (me_ix (ME.toB (me_var 0)) (ME.toB me_int)))))) ml_nil))) (ml_cons (me_bin om_add (ME.toB me_int) (ME.toB (me_bin om_mul (ME.toB me_int) (ME.toB (me_ix (ME.toB (me_var 0)) (ME.toB me_int)))))) (ml_cons (me_bin om_add (ME.toB me_int) (ME.toB (me_bin om_mul (ME.toB me_int) (ME.toB (me_ix (ME.toB (me_var 0)) (ME.toB me_int)))))) ml_nil)))))))))))
  exact ⟨(He.fAd K ("_law_drawn_train", none)), fd, ["draws"], z, hg, hk, hb⟩
theorem sc_law_metres : FnScope ["rows", "found", "block", "kind", "length", "slope", "k"] ["rows"] (defScope s_law_metres) := ⟨rfl, rfl, rfl, by decide +kernel, rfl, by decide +kernel, by decide +kernel⟩
theorem at_law_metres (A : Wt fa fn xs K mg) : FnAt P w K mg base (ct K) 1 "_law_metres" 1 m_law_metres := by
  obtain ⟨fd, F⟩ := A.def_ 26 (d := d_law_metres) rfl
  have F : FunD K "_law_metres" "_law_metres" (defArgs s_law_metres) (defBody s_law_metres) (defScope s_law_metres) [] [] (He.fAd K ("_law_metres", none)) fd := F
  have hb : Binds K fd ["rows"] [] := binds_n F fun _ _ _ _ _ _ us hl => match us, hl with | [_], _ => rfl
  have hg : mg "_law_metres" = some (.ref (He.ga K "_law_metres")) := A.glo 67
  have hg : mg "_law_metres" = some (.ref (He.fAd K ("_law_metres", none))) := hg
  have hk := F.kp
  have z : FnOk P w K mg base (L2.CX P w) (0 + 1) (He.fAd K ("_law_metres", none)) fd ["rows"] (spD K (ct K) 1 (runD 7 b_law_metres)) := by
    refine fn_ok (k := 0) (N := ["rows", "found", "block", "kind", "length", "slope", "k"]) (n := 1) (m := b_law_metres) F sc_law_metres rfl fun cdv A0 outer s H E Fb hr => ?_
    exact (mss_cons (ms_setO 1 sc_law_metres.nd (mf_lst ml_nil)) (mss_cons (ms_set 2 sc_law_metres.nd me_int) (mss_cons (ms_for (vs := [3, 4, 5]) (passes_of rfl) rfl (mi_seq (me_var 0)) (mg_seq rfl (mgs_cons (mg_name 3 sc_law_metres.nd) (mgs_cons (mg_name 4 sc_law_metres.nd) (mgs_cons (mg_name 5 sc_law_metres.nd) mgs_nil))) (glen_cons (glen_cons (glen_cons glen_nil)))) (mss_cons (ms_for (vs := [6]) (passes_of rfl) rfl (mi_range1 (A.free 13) (ml_cons (me_var 4) ml_nil)) (mg_name 6 sc_law_metres.nd) (mss_one (ms_lw 1 lw_append (ml_cons (me_tup (ml_cons (me_var 3) (ml_cons (me_var 5) (ml_cons (me_var 2) ml_nil)))) ml_nil) (hpe := fun h h0 h1 => pe_bm PySem.F.plainAttrs_list PySem.F.slot_list_append PySem.F.type_list_append h h0 h1)))) (mss_one (ms_set 2 sc_law_metres.nd (me_bin om_add (ME.toB (me_var 2)) (ME.toB (me_bty cm_int (A.free 38) (by decide +kernel) (mlb_cons (ME.toB (me_cmp (om_eq (hr).units) (ME.toB (me_var 3)) (ME.toB me_str))) mlb_nil)))))))) (mss_frz 1 (mss_one (ms_ret (me_var 1)))))))
  exact ⟨(He.fAd K ("_law_metres", none)), fd, ["rows"], z, hg, hk, hb⟩
theorem sc_law_after : FnScope ["metre", "data", "energy", "friction", "strength", "rest", "kind", "slope", "block"] ["metre", "data", "energy", "friction", "strength"] (defScope s_law_after) := ⟨rfl, rfl, rfl, by decide +kernel, rfl, by decide +kernel, by decide +kernel⟩
theorem at_law_after (A : Wt fa fn xs K mg) : FnAt P w K mg base (ct K) 1 "_law_after" 5 m_law_after := by
  obtain ⟨fd, F⟩ := A.def_ 27 (d := d_law_after) rfl
  have F : FunD K "_law_after" "_law_after" (defArgs s_law_after) (defBody s_law_after) (defScope s_law_after) [] [] (He.fAd K ("_law_after", none)) fd := F
  have hb : Binds K fd ["metre", "data", "energy", "friction", "strength"] [] := binds_n F fun _ _ _ _ _ _ us hl => match us, hl with | [_, _, _, _, _], _ => rfl
  have hg : mg "_law_after" = some (.ref (He.ga K "_law_after")) := A.glo 68
  have hg : mg "_law_after" = some (.ref (He.fAd K ("_law_after", none))) := hg
  have hk := F.kp
  have z : FnOk P w K mg base (L2.CX P w) (0 + 1) (He.fAd K ("_law_after", none)) fd ["metre", "data", "energy", "friction", "strength"] (spD K (ct K) 5 (runD 9 b_law_after)) := by
    refine fn_ok (k := 0) (N := ["metre", "data", "energy", "friction", "strength", "rest", "kind", "slope", "block"]) (n := 5) (m := b_law_after) F sc_law_after rfl fun cdv A0 outer s H E Fb hr => ?_
    exact (mss_cons (ms_asg (vs := [6, 7, 8]) (me_var 0) (mg_seq rfl (mgs_cons (mg_name 6 sc_law_after.nd) (mgs_cons (mg_name 7 sc_law_after.nd) (mgs_cons (mg_name 8 sc_law_after.nd) mgs_nil))) (glen_cons (glen_cons (glen_cons glen_nil))))) (mss_cons (ms_set 5 sc_law_after.nd (me_bin om_sub (ME.toB (me_bin om_sub (ME.toB (me_var 2)) (ME.toB (me_bin om_mul (ME.toB me_int) (ME.toB (me_var 7)))))) (ME.toB (me_var 3)))) (mss_cons (ms_if (mt_cmp (om_eq (hr).units) (ME.toB (me_var 6)) (ME.toB me_str)) (mss_one (ms_ret (me_bi (cm_max2 rfl) (A.free 5) (by decide +kernel) (mlb_cons (ME.toB (me_ix (ME.toB (me_var 1)) (ME.toB me_int))) (mlb_cons (ME.toB (me_var 5)) mlb_nil))))) mss_nil) (mss_cons (ms_if (MW.toT (mw_and (mt_cmp (om_eq (hr).units) (ME.toB (me_var 6)) (ME.toB me_str)) (mw_and1 (mt_cmp om_is (ME.toB (me_var 4)) (ME.toB me_non))))) (mss_one (ms_ret (me_bi (cm_max2 rfl) (A.free 5) (by decide +kernel) (mlb_cons (ME.toB (me_ix (ME.toB (me_var 1)) (ME.toB me_int))) (mlb_cons (ME.toB (me_var 5)) mlb_nil))))) mss_nil) (mss_cons (ms_if (mt_cmp (om_eq (hr).units) (ME.toB (me_var 6)) (ME.toB me_str)) (mss_one (ms_set 5 sc_law_after.nd (me_bin om_sub (ME.toB (me_var 5)) (ME.toB (me_var 4))))) mss_nil) (mss_cons (ms_if (mt_cmp (om_eq (hr).units) (ME.toB (me_var 2)) (ME.toB me_int)) (mss_one (ms_ret me_int)) mss_nil) (mss_one (ms_ret (me_bi (cm_max2 rfl) (A.free 5) (by decide +kernel) (mlb_cons (ME.toB me_int) (mlb_cons (ME.toB (me_var 5)) mlb_nil)))))))))))
  exact ⟨(He.fAd K ("_law_after", none)), fd, ["metre", "data", "energy", "friction", "strength"], z, hg, hk, hb⟩
theorem sc_law_layout : FnScope ["rows", "row"] ["rows"] (defScope s_law_layout) := ⟨rfl, rfl, rfl, by decide +kernel, rfl, by decide +kernel, by decide +kernel⟩
theorem at_law_layout (A : Wt fa fn xs K mg) : FnAt P w K mg base (ct K) 4 "_law_layout" 1 m_law_layout := by
  obtain ⟨fd, F⟩ := A.def_ 28 (d := d_law_layout) rfl
  have F : FunD K "_law_layout" "_law_layout" (defArgs s_law_layout) (defBody s_law_layout) (defScope s_law_layout) [] [] (He.fAd K ("_law_layout", none)) fd := F
  have hb : Binds K fd ["rows"] [] := binds_n F fun _ _ _ _ _ _ us hl => match us, hl with | [_], _ => rfl
  have hg : mg "_law_layout" = some (.ref (He.ga K "_law_layout")) := A.glo 69
  have hg : mg "_law_layout" = some (.ref (He.fAd K ("_law_layout", none))) := hg
  have hk := F.kp
  have z : FnOk P w K mg base (L2.CX P w) (3 + 1) (He.fAd K ("_law_layout", none)) fd ["rows"] (spD K (ct K) 1 (runD 2 b_law_layout)) := by
    refine fn_ok (k := 3) (N := ["rows", "row"]) (n := 1) (m := b_law_layout) F sc_law_layout rfl fun cdv A0 outer s H E Fb hr => ?_
    exact (mss_one (ms_ret (me_make (at_layout_init A) (hr.mono (by decide)) (ml_cons (MF.toE (mf_comp (own := [("row", 1)]) rfl sc_law_layout.nd (MI.b (mi_seq (me_var 0))) (blkOk_by (by kernel_rfl)) (fun _ _ _ _ _ _ => (mg_name 1 sc_law_layout.nd)) (fun _ _ _ _ _ _ => mts_nil) (fun _ _ _ _ _ _ => (me_var 1)))) ml_nil) (len_cons len_nil))))
  exact ⟨(He.fAd K ("_law_layout", none)), fd, ["rows"], z, hg, hk, hb⟩
theorem sc_law_train : FnScope ["data"] ["data"] (defScope s_law_train) := ⟨rfl, rfl, rfl, by decide +kernel, rfl, by decide +kernel, by decide +kernel⟩
theorem at_law_train (A : Wt fa fn xs K mg) : FnAt P w K mg base (ct K) 4 "_law_train" 1 m_law_train := by
  obtain ⟨fd, F⟩ := A.def_ 29 (d := d_law_train) rfl
  have F : FunD K "_law_train" "_law_train" (defArgs s_law_train) (defBody s_law_train) (defScope s_law_train) [] [] (He.fAd K ("_law_train", none)) fd := F
  have hb : Binds K fd ["data"] [] := binds_n F fun _ _ _ _ _ _ us hl => match us, hl with | [_], _ => rfl
  have hg : mg "_law_train" = some (.ref (He.ga K "_law_train")) := A.glo 70
  have hg : mg "_law_train" = some (.ref (He.fAd K ("_law_train", none))) := hg
  have hk := F.kp
  have z : FnOk P w K mg base (L2.CX P w) (3 + 1) (He.fAd K ("_law_train", none)) fd ["data"] (spD K (ct K) 1 (runD 1 b_law_train)) := by
    refine fn_ok (k := 3) (N := ["data"]) (n := 1) (m := b_law_train) F sc_law_train rfl fun cdv A0 outer s H E Fb hr => ?_
    exact (mss_one (ms_ret (me_make (at_train_init A) (hr.mono (by decide)) (ml_cons (me_ix (ME.toB (me_var 0)) (ME.toB me_int)) (ml_cons (me_ix (ME.toB (me_var 0)) (ME.toB me_int)) (ml_cons (me_ix (ME.toB (me_var 0)) (ME.toB me_int)) (ml_cons (me_ix (ME.toB (me_var 0)) (ME.toB me_int)) (ml_cons (me_ix (ME.toB (me_var 0)) (ME.toB me_int)) ml_nil))))) (len_cons (len_cons (len_cons (len_cons (len_cons len_nil))))))))
  exact ⟨(He.fAd K ("_law_train", none)), fd, ["data"], z, hg, hk, hb⟩
theorem sc_law_safe_rows : FnScope ["draws", "up", "slope"] ["draws"] (defScope s_law_safe_rows) := ⟨rfl, rfl, rfl, by decide +kernel, rfl, by decide +kernel, by decide +kernel⟩
theorem at_law_safe_rows (A : Wt fa fn xs K mg) : FnAt P w K mg base (ct K) 1 "_law_safe_rows" 1 m_law_safe_rows := by
  obtain ⟨fd, F⟩ := A.def_ 30 (d := d_law_safe_rows) rfl
  have F : FunD K "_law_safe_rows" "_law_safe_rows" (defArgs s_law_safe_rows) (defBody s_law_safe_rows) (defScope s_law_safe_rows) [] [] (He.fAd K ("_law_safe_rows", none)) fd := F
  have hb : Binds K fd ["draws"] [] := binds_n F fun _ _ _ _ _ _ us hl => match us, hl with | [_], _ => rfl
  have hg : mg "_law_safe_rows" = some (.ref (He.ga K "_law_safe_rows")) := A.glo 71
  have hg : mg "_law_safe_rows" = some (.ref (He.fAd K ("_law_safe_rows", none))) := hg
  have hk := F.kp
  have z : FnOk P w K mg base (L2.CX P w) (0 + 1) (He.fAd K ("_law_safe_rows", none)) fd ["draws"] (spD K (ct K) 1 (runD 3 b_law_safe_rows)) := by
    refine fn_ok (k := 0) (N := ["draws", "up", "slope"]) (n := 1) (m := b_law_safe_rows) F sc_law_safe_rows rfl fun cdv A0 outer s H E Fb hr => ?_
    exact (mss_cons (ms_set 1 sc_law_safe_rows.nd (me_bin om_add (ME.toB me_int) (ME.toB (me_bin om_mod (ME.toB (me_ix (ME.toB (me_var 0)) (ME.toB me_int))) (ME.toB me_int))))) (mss_cons (ms_set 2 sc_law_safe_rows.nd (me_bin om_add (ME.toB me_int) (ME.toB (me_bin om_mod (ME.toB (me_ix (ME.toB (me_var 0)) (ME.toB me_int))) (ME.toB me_int))))) (mss_one (ms_ret (MF.toE (mf_lst (ml_cons (me_tup (ml_cons me_str (ml_cons me_int (ml_cons me_int ml_nil)))) (ml_cons (me_tup (ml_cons me_str (ml_cons (me_var 1) (ml_cons (me_var 2) ml_nil)))) (ml_cons (me_tup (ml_cons me_str (ml_cons (me_var 1) (ml_cons (me_bin om_sub (ME.toB me_int) (ME.toB (me_var 2))) ml_nil)))) (ml_cons (me_tup (ml_cons me_str (ml_cons (me_bin om_add (ME.toB me_int) (ME.toB (me_bin om_mod (ME.toB (me_ix (ME.toB (me_var 0)) (ME.toB me_int))) (ME.toB me_int)))) (ml_cons me_int ml_nil)))) (ml_cons (me_tup (ml_cons me_str (ml_cons (me_bin om_add (ME.toB me_int) (ME.toB (me_bin om_mod (ME.toB (me_ix (ME.toB (me_var 0)) (ME.toB me_int))) (ME.toB me_int)))) (ml_cons me_int ml_nil)))) (ml_cons (me_tup (ml_cons me_str (ml_cons (me_bin om_add (ME.toB me_int) (ME.toB (me_bin om_mod (ME.toB (me_ix (ME.toB (me_var 0)) (ME.toB me_int))) (ME.toB me_int)))) (ml_cons me_int ml_nil)))) ml_nil))))))))))))
  exact ⟨(He.fAd K ("_law_safe_rows", none)), fd, ["draws"], z, hg, hk, hb⟩
theorem sc_law_safe_train : FnScope ["draws", "rough", "strong"] ["draws"] (defScope s_law_safe_train) := ⟨rfl, rfl, rfl, by decide +kernel, rfl, by decide +kernel, by decide +kernel⟩
theorem at_law_safe_train (A : Wt fa fn xs K mg) : FnAt P w K mg base (ct K) 1 "_law_safe_train" 1 m_law_safe_train := by
  obtain ⟨fd, F⟩ := A.def_ 31 (d := d_law_safe_train) rfl
  have F : FunD K "_law_safe_train" "_law_safe_train" (defArgs s_law_safe_train) (defBody s_law_safe_train) (defScope s_law_safe_train) [] [] (He.fAd K ("_law_safe_train", none)) fd := F
  have hb : Binds K fd ["draws"] [] := binds_n F fun _ _ _ _ _ _ us hl => match us, hl with | [_], _ => rfl
  have hg : mg "_law_safe_train" = some (.ref (He.ga K "_law_safe_train")) := A.glo 72
  have hg : mg "_law_safe_train" = some (.ref (He.fAd K ("_law_safe_train", none))) := hg
  have hk := F.kp
  have z : FnOk P w K mg base (L2.CX P w) (0 + 1) (He.fAd K ("_law_safe_train", none)) fd ["draws"] (spD K (ct K) 1 (runD 3 b_law_safe_train)) := by
    refine fn_ok (k := 0) (N := ["draws", "rough", "strong"]) (n := 1) (m := b_law_safe_train) F sc_law_safe_train rfl fun cdv A0 outer s H E Fb hr => ?_
    exact (mss_cons (ms_set 1 sc_law_safe_train.nd (me_bin om_mod (ME.toB (me_ix (ME.toB (me_var 0)) (ME.toB me_int))) (ME.toB me_int))) (mss_cons (ms_set 2 sc_law_safe_train.nd (me_bin om_add (ME.toB me_int) (ME.toB (me_bin om_mul (ME.toB me_int) (ME.toB (me_ix (ME.toB (me_var 0)) (ME.toB me_int))))))) (mss_one (ms_ret (MF.toE (mf_lst (ml_cons (me_bin om_add (ME.toB me_int) (ME.toB (me_bin om_mod (ME.toB (me_ix (ME.toB (me_var 0)) (ME.toB me_int))) (ME.toB me_int)))) (ml_cons (me_tup (ml_cons (me_var 1) (ml_cons (me_bin om_add (ME.toB (me_var 1)) (ME.toB (me_bin om_mod (ME.toB (me_ix (ME.toB (me_var 0)) (ME.toB me_int))) (ME.toB me_int)))) ml_nil))) (ml_cons (me_tup (ml_cons (me_var 2) (ml_cons (me_bin om_add (ME.toB (me_var 2)) (ME.toB (me_bin om_mul (ME.toB me_int) (ME.toB (me_ix (ME.toB (me_var 0)) (ME.toB me_int)))))) ml_nil))) (ml_cons (me_bin om_add (ME.toB me_int) (ME.toB (me_ix (ME.toB (me_var 0)) (ME.toB me_int)))) (ml_cons (me_bin om_add (ME.toB me_int) (ME.toB (me_ix (ME.toB (me_var 0)) (ME.toB me_int)))) ml_nil)))))))))))
  exact ⟨(He.fAd K ("_law_safe_train", none)), fd, ["draws"], z, hg, hk, hb⟩
theorem sc_law_rolled : FnScope ["metres", "data", "first", "energy", "frictions", "strengths", "found", "k"] ["metres", "data", "first", "energy", "frictions", "strengths"] (defScope s_law_rolled) := ⟨rfl, rfl, rfl, by decide +kernel, rfl, by decide +kernel, by decide +kernel⟩
theorem at_law_rolled (A : Wt fa fn xs K mg) : FnAt P w K mg base (ct K) 2 "_law_rolled" 6 m_law_rolled := by
  obtain ⟨fd, F⟩ := A.def_ 32 (d := d_law_rolled) rfl
  have F : FunD K "_law_rolled" "_law_rolled" (defArgs s_law_rolled) (defBody s_law_rolled) (defScope s_law_rolled) [] [] (He.fAd K ("_law_rolled", none)) fd := F
  have hb : Binds K fd ["metres", "data", "first", "energy", "frictions", "strengths"] [] := binds_n F fun _ _ _ _ _ _ us hl => match us, hl with | [_, _, _, _, _, _], _ => rfl
  have hg : mg "_law_rolled" = some (.ref (He.ga K "_law_rolled")) := A.glo 73
  have hg : mg "_law_rolled" = some (.ref (He.fAd K ("_law_rolled", none))) := hg
  have hk := F.kp
  have z : FnOk P w K mg base (L2.CX P w) (1 + 1) (He.fAd K ("_law_rolled", none)) fd ["metres", "data", "first", "energy", "frictions", "strengths"] (spD K (ct K) 6 (runD 8 b_law_rolled)) := by
    refine fn_ok (k := 1) (N := ["metres", "data", "first", "energy", "frictions", "strengths", "found", "k"]) (n := 6) (m := b_law_rolled) F sc_law_rolled rfl fun cdv A0 outer s H E Fb hr => ?_
    exact (mss_cons (ms_setO 6 sc_law_rolled.nd (mf_lst ml_nil)) (mss_cons (ms_for (vs := [7]) (passes_of rfl) rfl (mi_range1 (A.free 13) (ml_cons (me_bi cm_len (A.free 0) (by decide +kernel) (mlb_cons (ME.toB (me_var 4)) mlb_nil)) ml_nil)) (mg_name 7 sc_law_rolled.nd) (mss_cons (ms_set 3 sc_law_rolled.nd (me_call (at_law_after A) (hr.mono (by decide)) (ml_cons (me_ix (ME.toB (me_var 0)) (ME.toB (me_bin om_mod (ME.toB (me_bin om_add (ME.toB (me_var 2)) (ME.toB (me_var 7)))) (ME.toB (me_bi cm_len (A.free 0) (by decide +kernel) (mlb_cons (ME.toB (me_var 0)) mlb_nil)))))) (ml_cons (me_var 1) (ml_cons (me_var 3) (ml_cons (me_ix (ME.toB (me_var 4)) (ME.toB (me_var 7))) (ml_cons (me_ix (ME.toB (me_var 5)) (ME.toB (me_var 7))) ml_nil))))) (len_cons (len_cons (len_cons (len_cons (len_cons len_nil))))))) (mss_one (ms_lw 6 lw_append (ml_cons (me_var 3) ml_nil) (hpe := fun h h0 h1 => pe_bm PySem.F.plainAttrs_list PySem.F.slot_list_append PySem.F.type_list_append h h0 h1))))) (mss_frz 6 (mss_one (ms_ret (me_var 6))))))
  exact ⟨(He.fAd K ("_law_rolled", none)), fd, ["metres", "data", "first", "energy", "frictions", "strengths"], z, hg, hk, hb⟩
theorem sc_law_brake_of : FnScope ["metres", "block", "k"] ["metres", "block"] (defScope s_law_brake_of) := ⟨rfl, rfl, rfl, by decide +kernel, rfl, by decide +kernel, by decide +kernel⟩
theorem at_law_brake_of (A : Wt fa fn xs K mg) : FnAt P w K mg base (ct K) 1 "_law_brake_of" 2 m_law_brake_of := by
  obtain ⟨fd, F⟩ := A.def_ 33 (d := d_law_brake_of) rfl
  have F : FunD K "_law_brake_of" "_law_brake_of" (defArgs s_law_brake_of) (defBody s_law_brake_of) (defScope s_law_brake_of) [] [] (He.fAd K ("_law_brake_of", none)) fd := F
  have hb : Binds K fd ["metres", "block"] [] := binds_n F fun _ _ _ _ _ _ us hl => match us, hl with | [_, _], _ => rfl
  have hg : mg "_law_brake_of" = some (.ref (He.ga K "_law_brake_of")) := A.glo 74
  have hg : mg "_law_brake_of" = some (.ref (He.fAd K ("_law_brake_of", none))) := hg
  have hk := F.kp
  have z : FnOk P w K mg base (L2.CX P w) (0 + 1) (He.fAd K ("_law_brake_of", none)) fd ["metres", "block"] (spD K (ct K) 2 (runD 3 b_law_brake_of)) := by
    refine fn_ok (k := 0) (N := ["metres", "block", "k"]) (n := 2) (m := b_law_brake_of) F sc_law_brake_of rfl fun cdv A0 outer s H E Fb hr => ?_
    exact (mss_one (ms_ret (me_ix (ME.toB (MF.toE (mf_comp (own := [("k", 2)]) rfl sc_law_brake_of.nd (MI.b (mi_range1 (A.free 13) (ml_cons (me_bi cm_len (A.free 0) (by decide +kernel) (mlb_cons (ME.toB (me_var 0)) mlb_nil)) ml_nil))) (blkOk_by (by kernel_rfl)) (fun _ _ _ _ _ _ => (mg_name 2 sc_law_brake_of.nd)) (fun _ _ _ _ _ _ => (mts_one (MW.toT (mw_and (mt_cmp (om_eq (hr).units) (ME.toB (me_ix (ME.toB (me_ix (ME.toB (me_var 0)) (ME.toB (me_var 2)))) (ME.toB me_int))) (ME.toB (me_var 1))) (mw_and1 (mt_cmp (om_eq (hr).units) (ME.toB (me_ix (ME.toB (me_ix (ME.toB (me_var 0)) (ME.toB (me_var 2)))) (ME.toB me_int))) (ME.toB me_str))))))) (fun _ _ _ _ _ _ => (me_var 2))))) (ME.toB me_int))))
  exact ⟨(He.fAd K ("_law_brake_of", none)), fd, ["metres", "block"], z, hg, hk, hb⟩
theorem sc_law : FnScope ["script", "draws", "rows", "data", "metres", "layout", "train", "greatest", "block", "own", "brake", "frictions", "strengths", "room", "energy", "closed", "opened", "k"] ["script"] (defScope s_law) := ⟨rfl, rfl, rfl, by decide +kernel, rfl, by decide +kernel, by decide +kernel⟩
theorem ok_law (A : Wt fa fn xs K mg) {fd : FuncData} (F : FunD K "law" "law" (defArgs s_law) (defBody s_law) (defScope s_law) [] [] (He.fAd K ("law", none)) fd) : FnOk P w K mg base (L2.CX P w) 7 (He.fAd K ("law", none)) fd ["script"] (spD K (ct K) 1 (runD 18 b_law)) := by
  refine fn_ok (k := 6) (N := ["script", "draws", "rows", "data", "metres", "layout", "train", "greatest", "block", "own", "brake", "frictions", "strengths", "room", "energy", "closed", "opened", "k"]) (n := 1) (m := b_law) F sc_law rfl fun cdv A0 outer s H E Fb hr => ?_
  exact (mss_cons (ms_set 1 sc_law.nd (me_call (at_law_draws A) (hr.mono (by decide)) (ml_cons (me_call (at_law_cell A) (hr.mono (by decide)) (ml_cons (me_var 0) (ml_cons me_int ml_nil)) (len_cons (len_cons len_nil))) (ml_cons me_int ml_nil)) (len_cons (len_cons len_nil)))) (mss_cons (ms_set 2 sc_law.nd (me_call (at_law_safe_rows A) (hr.mono (by decide)) (ml_cons (me_var 1) ml_nil) (len_cons len_nil))) (mss_cons (ms_setO 3 sc_law.nd (mf_call (at_law_safe_train A) (hr.mono (by decide)) (ml_cons (me_var 1) ml_nil) (len_cons len_nil))) (mss_cons (ms_if (mt_cmp (om_eq (hr).units) (ME.toB (me_bin om_mod (ME.toB (me_ix (ME.toB (me_var 1)) (ME.toB me_int))) (ME.toB me_int))) (ME.toB me_int)) (mss_cons (ms_set 2 sc_law.nd (me_call (at_law_drawn_layout A) (hr.mono (by decide)) (ml_cons (me_var 1) ml_nil) (len_cons len_nil))) (mss_cons (ms_setO 3 sc_law.nd (mf_call (at_law_drawn_train A) (hr.mono (by decide)) (ml_cons (me_var 1) ml_nil) (len_cons len_nil))) (mss_cons (ms_setIx 3 (me_tup (ml_cons (me_bin om_add (ME.toB (me_ix (ME.toB (me_ix (mb_var 3) (ME.toB me_int))) (ME.toB me_int))) (ME.toB me_int)) (ml_cons (me_bin om_add (ME.toB (me_ix (ME.toB (me_ix (mb_var 3) (ME.toB me_int))) (ME.toB me_int))) (ME.toB me_int)) ml_nil))) (ME.toB me_int)) (mss_one (ms_setIx 3 me_int (ME.toB me_int)))))) mss_nil) (mss_cons (ms_set 4 sc_law.nd (me_call (at_law_metres A) (hr.mono (by decide)) (ml_cons (me_var 2) ml_nil) (len_cons len_nil))) (mss_cons (ms_set 5 sc_law.nd (me_call (at_law_layout A) (hr.mono (by decide)) (ml_cons (me_var 2) ml_nil) (len_cons len_nil))) (mss_frz 3 (mss_cons (ms_set 6 sc_law.nd (me_call (at_law_train A) (hr.mono (by decide)) (ml_cons (me_var 3) ml_nil) (len_cons len_nil))) (mss_cons (ms_if (mt_cmp om_gt (ME.toB (me_bi cm_len (A.free 0) (by decide +kernel) (mlb_cons (ME.toB (me_call (at_faults A) (hr.mono (by decide)) (ml_cons (me_var 5) (ml_cons (me_var 6) ml_nil)) (len_cons (len_cons len_nil)))) mlb_nil))) (ME.toB me_int)) (mss_one (ms_ret (me_cmp (om_eq (hr).units) (ME.toB (me_bin om_mod (ME.toB (me_ix (ME.toB (me_var 1)) (ME.toB me_int))) (ME.toB me_int))) (ME.toB me_int)))) mss_nil) (mss_cons (ms_set 7 sc_law.nd (me_call (at_greatest_energies A) (hr.mono (by decide)) (ml_cons (me_var 5) (ml_cons (me_var 6) ml_nil)) (len_cons (len_cons len_nil)))) (mss_cons (ms_for (vs := [8]) (passes_of rfl) rfl (mi_range1 (A.free 13) (ml_cons (me_bin om_add (ME.toB (me_ix (ME.toB (me_ix (ME.toB (me_var 4)) (ME.toB (me_neg (ME.toB me_int))))) (ME.toB me_int))) (ME.toB me_int)) ml_nil)) (mg_name 8 sc_law.nd) (mss_cons (ms_setComp (own := [("k", 17)]) 9 false rfl sc_law.nd (MI.b (mi_range1 (A.free 13) (ml_cons (me_bi cm_len (A.free 0) (by decide +kernel) (mlb_cons (ME.toB (me_var 4)) mlb_nil)) ml_nil))) (blkOk_by (by kernel_rfl)) (fun _ _ _ _ _ _ => (mg_name 17 sc_law.nd)) (fun _ _ _ _ _ _ => (mts_one (mt_cmp (om_eq (hr).units) (ME.toB (me_ix (ME.toB (me_ix (ME.toB (me_var 4)) (ME.toB (me_var 17)))) (ME.toB me_int))) (ME.toB (me_var 8))))) (fun _ _ _ _ _ _ => (me_var 17))) (mss_cons (ms_set 10 sc_law.nd (me_bin om_sub (ME.toB (me_call (at_law_brake_of A) (hr.mono (by decide)) (ml_cons (me_var 4) (ml_cons (me_var 8) ml_nil)) (len_cons (len_cons len_nil)))) (ME.toB (me_ix (ME.toB (me_var 9)) (ME.toB me_int))))) (mss_cons (ms_setComp (own := [("k", 17)]) 11 false rfl sc_law.nd (MI.b (mi_range1 (A.free 13) (ml_cons (me_bi cm_len (A.free 0) (by decide +kernel) (mlb_cons (ME.toB (me_var 9)) mlb_nil)) ml_nil))) (blkOk_by (by kernel_rfl)) (fun _ _ _ _ _ _ => (mg_name 17 sc_law.nd)) (fun _ _ _ _ _ _ => mts_nil) (fun _ _ _ _ _ _ => (me_bin om_add (ME.toB (me_ix (ME.toB (me_ix (mb_var 3) (ME.toB me_int))) (ME.toB me_int))) (ME.toB (me_bin om_mod (ME.toB (me_ix (ME.toB (me_var 1)) (ME.toB (me_bin om_mod (ME.toB (me_bin om_add (ME.toB (me_bin om_mul (ME.toB me_int) (ME.toB (me_var 8)))) (ME.toB (me_var 17)))) (ME.toB me_int))))) (ME.toB (me_bin om_add (ME.toB (me_bin om_sub (ME.toB (me_ix (ME.toB (me_ix (mb_var 3) (ME.toB me_int))) (ME.toB me_int))) (ME.toB (me_ix (ME.toB (me_ix (mb_var 3) (ME.toB me_int))) (ME.toB me_int))))) (ME.toB me_int)))))))) (mss_cons (ms_setComp (own := [("k", 17)]) 12 false rfl sc_law.nd (MI.b (mi_range1 (A.free 13) (ml_cons (me_bi cm_len (A.free 0) (by decide +kernel) (mlb_cons (ME.toB (me_var 9)) mlb_nil)) ml_nil))) (blkOk_by (by kernel_rfl)) (fun _ _ _ _ _ _ => (mg_name 17 sc_law.nd)) (fun _ _ _ _ _ _ => mts_nil) (fun _ _ _ _ _ _ => (me_bin om_add (ME.toB (me_ix (ME.toB (me_ix (mb_var 3) (ME.toB me_int))) (ME.toB me_int))) (ME.toB (me_bin om_mod (ME.toB (me_ix (ME.toB (me_var 1)) (ME.toB (me_bin om_mod (ME.toB (me_bin om_add (ME.toB (me_bin om_mul (ME.toB me_int) (ME.toB (me_var 8)))) (ME.toB (me_var 17)))) (ME.toB me_int))))) (ME.toB (me_bin om_add (ME.toB (me_bin om_sub (ME.toB (me_ix (ME.toB (me_ix (mb_var 3) (ME.toB me_int))) (ME.toB me_int))) (ME.toB (me_ix (ME.toB (me_ix (mb_var 3) (ME.toB me_int))) (ME.toB me_int))))) (ME.toB me_int)))))))) (mss_cons (ms_set 13 sc_law.nd (me_bin om_sub (ME.toB (me_ix (ME.toB (me_var 7)) (ME.toB (me_ix (ME.toB (me_var 9)) (ME.toB me_int))))) (ME.toB (me_ix (mb_var 3) (ME.toB me_int))))) (mss_one (ms_for (vs := [14]) (passes_of rfl) rfl (mi_seq (MF.toE (mf_lst (ml_cons (me_ix (mb_var 3) (ME.toB me_int)) (ml_cons (me_ix (ME.toB (me_var 7)) (ME.toB (me_ix (ME.toB (me_var 9)) (ME.toB me_int)))) (ml_cons (me_bin om_add (ME.toB (me_ix (mb_var 3) (ME.toB me_int))) (ME.toB (me_bin om_fdiv (ME.toB (me_bin om_mul (ME.toB (me_var 13)) (ME.toB (me_bin om_mod (ME.toB (me_ix (ME.toB (me_var 1)) (ME.toB (me_var 8)))) (ME.toB me_int))))) (ME.toB me_int)))) ml_nil)))))) (mg_name 14 sc_law.nd) (mss_frz 3 (mss_cons (ms_set 15 sc_law.nd (me_call (at_law_rolled A) (hr.mono (by decide)) (ml_cons (me_var 4) (ml_cons (me_var 3) (ml_cons (me_ix (ME.toB (me_var 9)) (ME.toB me_int)) (ml_cons (me_var 14) (ml_cons (me_var 11) (ml_cons (me_var 12) ml_nil)))))) (len_cons (len_cons (len_cons (len_cons (len_cons (len_cons len_nil)))))))) (mss_frz 3 (mss_cons (ms_set 16 sc_law.nd (me_call (at_law_rolled A) (hr.mono (by decide)) (ml_cons (me_var 4) (ml_cons (me_var 3) (ml_cons (me_ix (ME.toB (me_var 9)) (ME.toB me_int)) (ml_cons (me_var 14) (ml_cons (me_var 11) (ml_cons (MF.toE (mf_comp (own := [("k", 17)]) rfl sc_law.nd (MI.b (mi_seq (me_var 9))) (blkOk_by (by kernel_rfl)) (fun _ _ _ _ _ _ => (mg_name 17 sc_law.nd)) (fun _ _ _ _ _ _ => mts_nil) (fun _ _ _ _ _ _ => me_non))) ml_nil)))))) (len_cons (len_cons (len_cons (len_cons (len_cons (len_cons len_nil)))))))) (mss_one (ms_if (MW.toT (mw_or (mt_cmp om_in (ME.toB me_int) (ME.toB (me_slice (ME.toB (me_var 15)) mo_none (mo_some (ME.toB (me_var 10)))))) (mw_or (mt_cmp om_notin (ME.toB me_int) (ME.toB (me_slice (ME.toB (me_var 15)) (mo_some (ME.toB (me_var 10))) mo_none))) (mw_or (mt_cmp om_in (ME.toB me_int) (ME.toB (me_var 16))) (mw_or1 (mt_cmp om_lt (ME.toB (me_ix (ME.toB (me_var 16)) (ME.toB (me_neg (ME.toB me_int))))) (ME.toB (me_ix (mb_var 3) (ME.toB me_int))))))))) (mss_one (ms_ret me_bl)) mss_nil)))))))))))))) (mss_one (ms_ret me_bl)))))))))))))
theorem facts {f : Addr} (A : Wt fa fn xs K mg) (hfa : mg "law" = some (.ref f)) : ∃ fd : FuncData, (∀ (s : Shared) (v : Value), BindsTo s fd ⟨[v], []⟩ [("script", v)]) ∧ ∀ base : Heap, FnOk P w K mg base CXN 7 f fd ["script"] (noE (spD K (ct K) 1 m_law)) := by
  obtain ⟨fd, F⟩ := A.def_ 34 (d := d_law) rfl
  have F : FunD K "law" "law" (defArgs s_law) (defBody s_law) (defScope s_law) [] [] (He.fAd K ("law", none)) fd := F
  have hg : mg "law" = some (.ref (He.ga K "law")) := A.glo 75
  have hg : mg "law" = some (.ref (He.fAd K ("law", none))) := hg
  have e : f = (He.fAd K ("law", none)) := by
    have e := hfa.symm.trans hg
    injection e with e
    injection e with e
  subst e
  have b := FunD.bindsA (ps := ["script"]) F fun _ _ _ _ _ _ us hl => match us, hl with | [_], _ => rfl
  exact ⟨fd, fun s v => b s [v] rfl, fun base => fn_no (ok_law A F)⟩
end
abbrev R : PySem.W.OpenRow := PySem.W.OpenLaw.row PySem.Challenge.rw_coastersafe_k16_whole_every_train_comes
abbrev hk : PySem.W.Hook := hookX 5 fa fn xs
def ob (s : PySem.W.SharedT) : He.AlD := obsXG 5 fa fn xs (HandSHeadRun.getT s)
theorem ob_eq (s : PySem.W.SharedT) : ob s = hk.obs s.abs := obsXG_eq (HandSHeadRun.getT_eq s)
def loose : List PySem.Str := (["CoasterError", "BadNumber", "InvalidLayout", "InvalidTrain", "NotFitting", "is_interval", "FALL", "check_energy", "after_metre", "roll", "greatest_energies", "least_energies", "envelope_before", "envelope", "faults", "KINDS", "MOST_LENGTH_layout", "MOST_SLOPE", "MOST_TOTAL", "MOST_BLOCKS", "check_segments", "Layout", "MOST_LENGTH_train", "MOST_FRICTION", "MOST_BRAKE", "MOST_ENERGY", "Train", "_law_cell", "_law_draws", "_law_drawn_segments"] : List PySem.Str) ++ (["_law_drawn_layout", "_law_drawn_train", "_law_metres", "_law_after", "_law_layout", "_law_train", "_law_safe_rows", "_law_safe_train", "_law_rolled", "_law_brake_of"] : List PySem.Str)
theorem runRow (w : World) : HandSHeadRun.RunEq R (PySem.W.view R.prog [47]) hk ob 20000 loose w := by
  intro os
  kernel_rfl
end Cr
open PySem PySem.W PySem.Calls PyProof.Rows
theorem Cr.finish (hlaw : ∀ ns : List Int, ns.length ≤ 63 → Cr.m_law [.scr ns] = .ok (.bl true)) : PySem.Challenge.rw_coastersafe_k16_whole_every_train_comes.Holds := by
  w_on; o_law
  refine HandSHeadRun.head_any (r := OpenLaw.row PySem.Challenge.rw_coastersafe_k16_whole_every_train_comes) (q := view (OpenLaw.row PySem.Challenge.rw_coastersafe_k16_whole_every_train_comes).prog [47]) (H := Cr.hk) (ob := Cr.ob) (M := 20000) (loose := Cr.loose) (d := HandSHeadRun.topDef (OpenLaw.row PySem.Challenge.rw_coastersafe_k16_whole_every_train_comes).prog 47) (kwd := []) Cr.ob_eq
    (by kernel_rfl) (fun s => by kernel_rfl) Cr.runRow (by kernel_rfl) (by kernel_rfl) (by kernel_rfl) (by rfl) (by first | assumption | decide +kernel) (by decide +kernel) ⟨rfl, rfl, rfl, rfl, rfl, by decide +kernel⟩ ?hw ?hc
  case hw => w_witness2
  case hc =>
    refine L2.walk_ofE (l := PySem.Challenge.rw_coastersafe_k16_whole_every_train_comes) (n := 63) (k := 7) (x := "script") (CX := Cr.CXN) rfl (by decide) (by kernel_rfl) ⟨rfl, by decide, by decide⟩ ?F (fun _ _ _ _ z => z)
    intro w mg fa h Y G hmg0
    obtain ⟨K, KX, c⟩ := Y
    have hmg : mg ("law" : PySem.Str) = some (.ref fa) := by
      have e : (HandSHeadRun.topDef (OpenLaw.row PySem.Challenge.rw_coastersafe_k16_whole_every_train_comes).prog 47).name = ("law" : PySem.Str) := by kernel_rfl
      rw [← e]
      exact hmg0
    have A : Cr.Wt Cr.fa Cr.fn Cr.xs K mg := ⟨⟨h, KX, G⟩, c⟩
    obtain ⟨fd, hb, hF⟩ := Cr.facts (P := (PySem.Challenge.rw_coastersafe_k16_whole_every_train_comes).prog) (w := w) A hmg
    exact ⟨K, fd, Cr.noE (Cr.spD K (Cr.ct K) 1 Cr.m_law), KX, hb, fun H a ns hl _ hS => Cr.law_sp hlaw H a ns hl hS, fun base _ _ => hF base⟩
open PySem PySem.Spec PyProof.Rows
theorem PySem.Challenge.cw_coastersafe_k16_whole_every_train_comes_holds : PySem.Challenge.rw_coastersafe_k16_whole_every_train_comes.Holds := by
  exact Cr.finish fun ns _ => Cr.fin_of (Cr.r_law ⟨ns⟩) (Cr.k16_law ns)
