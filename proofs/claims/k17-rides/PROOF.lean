import PyProof.Rows.All
import Wide.All
import OpenK.AllK
import Wide.FinOn
import HandS.ForMost
import HandS.ForExc
import HandS.Wide
import HandS.Zip
import HandS.More
import HandS.Flow
import HandS.AnyAll
import HandS.TupAny
import HandS.IsInst
import HandS.Style
import HandS.HeadHook2
import HandS.HeadEnd
import HandS.Head0
import HandS.Head1
import HandS.Head2
import HandS.Defaults
import HandS.TupLe
import HandS.WideBits
import KE.KDictZip
import PyProof.GenCompT
import PyProof.WalksPairs
import HandS.Nested
import HandS.HeadHook4
import HandS.HeadWalk
import HandS.EndTab
import HandS.Deep
import HandS.Zip0
import HandS.Iter
import PyProof.Draws
import PyProof.EnumMake
import HandS.SetFor
import HandS.TupMul
import PyProof.P3In
import HandS.Conv
import PySem.Challenge.RW_coastersafe_k17_rides
set_option Elab.async false
set_option linter.all false
set_option maxRecDepth 100000
set_option maxHeartbeats 0
/-! Core, part 1: plain data, what represents it in the heap, the frame's slots. -/
namespace Cr
open PySem PySem.Spec PyProof.Rows L2
/-- plain data -/
inductive D where
  | non
  | bl (b : Bool)
  | int (i : Int)
  | str (x : Str)
  | tup (xs : List D)
  | lst (xs : List D)
  | obj (c : Nat) (xs : List D)
  | scr (ns : List Int)
/-- the classes: where they stand, their fields in the order of __init__; the tables of codes -/
structure CT where
  addr : Nat → Addr
  tab : Addr → Prop
/-! tables may grow, all else stays -/
def Lke (o : HO) (x : Option HO) : Prop := match o with
  | .tbl ps => ∃ more, x = some (.tbl (ps ++ more)) ∧ (TriplesOk ps.toList → TriplesOk (ps ++ more).toList)
  | o => x = some o
def NT (o : HO) : Prop := ∀ ps, o ≠ .tbl ps
theorem Lke.of {o : HO} {x : Option HO} (h : x = some o) : Lke o x := by
  cases o with
  | tbl ps => exact ⟨#[], by rw [h]; simp, fun z => by simpa using z⟩
  | _ => exact h
theorem Lke.eq {o : HO} {x : Option HO} (h : Lke o x) (n : NT o) : x = some o := by
  cases o with
  | tbl ps => exact absurd rfl (n ps)
  | _ => exact h
theorem Lke.some {o : HO} {x : Option HO} (h : Lke o x) : x ≠ none := by
  cases o with
  | tbl ps => obtain ⟨m, e, _⟩ := h; rw [e]; simp
  | _ => (have e : x = Option.some _ := h); rw [e]; simp
theorem Lke.trans {o : HO} {H : Hp} {a : Addr} {x : Option HO} (h : Lke o (H a)) (k : ∀ o, H a = Option.some o → Lke o x) : Lke o x := by
  cases o with
  | tbl ps =>
    obtain ⟨m, e, f⟩ := h
    obtain ⟨m2, e2, f2⟩ := k _ e
    exact ⟨m ++ m2, by rw [e2, Array.append_assoc], fun z => by rw [← Array.append_assoc]; exact f2 (f z)⟩
  | _ => exact k _ h
def Same (H H' : Hp) : Prop := ∀ b o, H b = some o → Lke o (H' b)
theorem Same.of {H H' : Hp} (s : L2.Same H H') : Same H H' := fun b o h => .of (s b o h)
theorem Same.refl (H : Hp) : Same H H := fun _ _ h => .of h
theorem Same.trans {H H1 H2 : Hp} (a : Same H H1) (b : Same H1 H2) : Same H H2 := fun c o h => (a c o h).trans (b c)
theorem Same.free {H H' : Hp} (e : Same H H') {l : Addr} (h : H' l = Option.none) : H l = Option.none := by
  cases q : H l with
  | none => rfl
  | some o => exact absurd h (e l o q).some
theorem Same.some {H H' : Hp} (e : Same H H') {l : Addr} (h : H l ≠ Option.none) : H' l ≠ Option.none := fun z => h (e.free z)
theorem Same.tab {H H' : Hp} (e : Same H H') {P : Addr} (h : GxR.TabG H P) : GxR.TabG H' P := by
  obtain ⟨ps, h1, h2⟩ := h
  obtain ⟨m, e1, e2⟩ := e P _ h1
  exact ⟨_, e1, e2 h2⟩
/-- the program's classes by number: their fields in the order of __init__ -/
def flds : Nat → List Str
  | 20 => ["segments", "metres", "begins", "brakes", "heights"]
  | 21 => ["length", "friction", "brake", "lift", "drive"]
  | 22 => ["ways", "over", "trains"]
  | 23 => ["inputs", "bits", "timers", "order", "statements", "limits", "starts", "slots"]
  | _ => []
/-- the one field of an error with an __init__ -/
def low : Nat → Str
  | 5 => "line"
  | 7 => "name"
  | 8 => "limit"
  | _ => ""
structure Gx where
  K : PySem.W.Frag
  T : CT
def KTup (K : PySem.W.Frag) (a : Addr) (xs : List V) : Prop :=
  ∃ (o : Obj) (its : Array Value) (n : Nat), K.lookup a = some o ∧ o.cls = .type "tuple" ∧ o.data = .seq its n ∧ its.size ≤ sizeLine ∧ Vals xs its.toList
def KLst (K : PySem.W.Frag) (a : Addr) (xs : List V) : Prop :=
  ∃ (o : Obj) (its : Array Value) (n : Nat), K.lookup a = some o ∧ o.cls = .type "list" ∧ o.dict = none ∧ o.data = .seq its n ∧ its.size ≤ sizeLine ∧ Vals xs its.toList
mutual
/-- v stands for the data d, nothing of it lies at a place of Av -/
def Rep (G : Gx) (H : Hp) (Av : Addr → Prop) : D → V → Prop
  | .non, v => v = .non
  | .bl b, v => v = .bl b
  | .int i, v => v = .int i
  | .str x, v => v = .str x
  | .tup ds, v => ∃ a vs, v = .ref a ∧ ((H a = some (.tup vs) ∧ ¬ Av a) ∨ KTup G.K a vs) ∧ RepL G H Av ds vs
  | .lst ds, v => ∃ a vs, v = .ref a ∧ (H a = some (.lst vs) ∧ ¬ Av a) ∧ RepL G H Av ds vs
  | .obj c ds, v => ∃ a dx vs, v = .ref a ∧ (H a = some (.ins (G.T.addr c) dx ((flds c).zip vs)) ∧ ¬ Av a) ∧ vs.length = (flds c).length ∧ RepL G H Av ds vs
  | .scr ns, v => ∃ a, v = .ref a ∧ ((Rd H a (.lst (ns.map V.int)) ∧ ¬ Av a) ∨ KLst G.K a (ns.map V.int))
def RepL (G : Gx) (H : Hp) (Av : Addr → Prop) : List D → List V → Prop
  | [], vs => vs = []
  | d :: ds, vs => ∃ v vr, vs = v :: vr ∧ Rep G H Av d v ∧ RepL G H Av ds vr
end
structure Kept (H H' : Hp) (Av Av' : Addr → Prop) : Prop where
  keep : ∀ a o, H a = some o → ¬ Av a → Lke o (H' a)
  av : ∀ a, Av' a → Av a ∨ H a = none
theorem Kept.no {H H' : Hp} {Av Av' : Addr → Prop} (k : Kept H H' Av Av') {a : Addr} {o : HO} (h : H a = some o) (n : ¬ Av a) : ¬ Av' a := fun z => by
  rcases k.av a z with q | q
  · exact n q
  · rw [h] at q; cases q
theorem Kept.trans {H H1 H2 : Hp} {A A1 A2 : Addr → Prop} (k : Kept H H1 A A1) (k2 : Kept H1 H2 A1 A2) : Kept H H2 A A2 := by
  refine ⟨fun a o h n => (k.keep a o h n).trans fun o' h' => k2.keep a o' h' (k.no h n), fun a z => ?_⟩
  rcases k2.av a z with q | q
  · exact k.av a q
  · by_cases hA : A a
    · exact .inl hA
    · cases e : H a with
      | none => exact .inr rfl
      | some o => exact absurd q (k.keep a o e hA).some
mutual
theorem Rep.mono {G : Gx} {H H' : Hp} {Av Av' : Addr → Prop} (k : Kept H H' Av Av') : ∀ (d : D) {v : V}, Rep G H Av d v → Rep G H' Av' d v
  | .non, v, h => h
  | .bl b, v, h => h
  | .int i, v, h => h
  | .str x, v, h => h
  | .tup ds, v, h => by
    obtain ⟨a, vs, e, h1, h2⟩ := h
    refine ⟨a, vs, e, ?_, RepL.mono k ds h2⟩
    rcases h1 with ⟨h1, n⟩ | h1
    · exact .inl ⟨k.keep _ _ h1 n, k.no h1 n⟩
    · exact .inr h1
  | .lst ds, v, h => by
    obtain ⟨a, vs, e, ⟨h1, n⟩, h2⟩ := h
    exact ⟨a, vs, e, ⟨k.keep _ _ h1 n, k.no h1 n⟩, RepL.mono k ds h2⟩
  | .obj c ds, v, h => by
    obtain ⟨a, dx, vs, e, ⟨h1, n⟩, hl, h2⟩ := h
    exact ⟨a, dx, vs, e, ⟨k.keep _ _ h1 n, k.no h1 n⟩, hl, RepL.mono k ds h2⟩
  | .scr ns, v, h => by
    obtain ⟨a, e, h1⟩ := h
    refine ⟨a, e, ?_⟩
    rcases h1 with ⟨h1 | ⟨o, h1⟩, n⟩ | h1
    · exact .inl ⟨.inl (k.keep _ _ h1 n), k.no h1 n⟩
    · exact .inl ⟨.inr ⟨o, k.keep _ _ h1 n⟩, k.no h1 n⟩
    · exact .inr h1
theorem RepL.mono {G : Gx} {H H' : Hp} {Av Av' : Addr → Prop} (k : Kept H H' Av Av') : ∀ (ds : List D) {vs : List V}, RepL G H Av ds vs → RepL G H' Av' ds vs
  | [], vs, h => h
  | d :: ds, vs, h => by
    obtain ⟨v, vr, e, h1, h2⟩ := h
    exact ⟨v, vr, e, Rep.mono k d h1, RepL.mono k ds h2⟩
end
section
variable {G : Gx} {H H' : Hp} {Av Av' : Addr → Prop}
theorem RepL.length : ∀ {ds : List D} {vs : List V}, RepL G H Av ds vs → vs.length = ds.length
  | [], _, h => by
    have e : _ = [] := h
    rw [e]; rfl
  | d :: ds, _, h => by
    obtain ⟨v, vr, e, _, h2⟩ := h
    rw [e, List.length_cons, List.length_cons, RepL.length h2]
theorem RepL.nil_iff {vs : List V} : RepL G H Av [] vs ↔ vs = [] := Iff.rfl
theorem RepL.cons {d : D} {ds : List D} {v : V} {vs : List V} (h1 : Rep G H Av d v) (h2 : RepL G H Av ds vs) : RepL G H Av (d :: ds) (v :: vs) := ⟨v, vs, rfl, h1, h2⟩
theorem RepL.get : ∀ {ds : List D} {vs : List V} {i : Nat} {d : D}, RepL G H Av ds vs → ds[i]? = some d → ∃ v, vs[i]? = some v ∧ Rep G H Av d v
  | [], _, _, _, _, e => by simp at e
  | d :: ds, _, 0, _, h, e => by
    obtain ⟨v, vr, rfl, h1, _⟩ := h
    simp at e
    subst e
    exact ⟨v, rfl, h1⟩
  | d :: ds, _, i + 1, _, h, e => by
    obtain ⟨v, vr, rfl, _, h2⟩ := h
    obtain ⟨w, e1, e2⟩ := RepL.get (i := i) h2 (by simpa using e)
    exact ⟨w, by simpa using e1, e2⟩
theorem RepL.getV : ∀ {ds : List D} {vs : List V} {i : Nat} {v : V}, RepL G H Av ds vs → vs[i]? = some v → ∃ d, ds[i]? = some d ∧ Rep G H Av d v := fun {ds vs i v} h e => by
  have hl := h.length
  have hi : i < ds.length := by rw [← hl]; exact (List.getElem?_eq_some_iff.mp e).1
  obtain ⟨w, e1, e2⟩ := h.get (List.getElem?_eq_getElem hi)
  rw [e] at e1; cases e1
  exact ⟨_, List.getElem?_eq_getElem hi, e2⟩
theorem RepL.append : ∀ {ds es : List D} {vs ws : List V}, RepL G H Av ds vs → RepL G H Av es ws → RepL G H Av (ds ++ es) (vs ++ ws)
  | [], _, _, _, h, h' => by
    have e : _ = [] := h
    subst e; exact h'
  | d :: ds, _, _, _, h, h' => by
    obtain ⟨v, vr, rfl, h1, h2⟩ := h
    exact ⟨v, vr ++ _, rfl, h1, RepL.append h2 h'⟩
theorem RepL.take : ∀ {ds : List D} {vs : List V} (n : Nat), RepL G H Av ds vs → RepL G H Av (ds.take n) (vs.take n)
  | _, _, 0, _ => by simp; rfl
  | [], _, n + 1, h => by
    have e : _ = [] := h
    subst e; rfl
  | d :: ds, _, n + 1, h => by
    obtain ⟨v, vr, rfl, h1, h2⟩ := h
    exact ⟨v, vr.take n, rfl, h1, RepL.take n h2⟩
theorem RepL.drop : ∀ {ds : List D} {vs : List V} (n : Nat), RepL G H Av ds vs → RepL G H Av (ds.drop n) (vs.drop n)
  | _, _, 0, h => h
  | [], _, n + 1, h => by
    have e : _ = [] := h
    subst e; rfl
  | d :: ds, _, n + 1, h => by
    obtain ⟨v, vr, rfl, _, h2⟩ := h
    exact RepL.drop n h2
theorem RepL.set : ∀ {ds : List D} {vs : List V} (i : Nat) {d : D} {v : V}, RepL G H Av ds vs → Rep G H Av d v → RepL G H Av (ds.set i d) (vs.set i v)
  | [], _, _, _, _, h, _ => by
    have e : _ = [] := h
    subst e; rfl
  | d :: ds, _, 0, _, _, h, r => by
    obtain ⟨v, vr, rfl, _, h2⟩ := h
    exact ⟨_, vr, rfl, r, h2⟩
  | d :: ds, _, i + 1, _, _, h, r => by
    obtain ⟨v, vr, rfl, h1, h2⟩ := h
    exact ⟨v, _, rfl, h1, RepL.set i h2 r⟩
theorem RepL.rep {ds : List D} {vs : List V} (h : RepL G H Av ds vs) : ∀ k : Nat, RepL G H Av (List.replicate k ds).flatten (List.replicate k vs).flatten
  | 0 => rfl
  | k + 1 => by
    rw [List.replicate_succ, List.replicate_succ, List.flatten_cons, List.flatten_cons]
    exact h.append (RepL.rep h k)
theorem RepL.reverse : ∀ {ds : List D} {vs : List V}, RepL G H Av ds vs → RepL G H Av ds.reverse vs.reverse
  | [], _, h => by
    have e : _ = [] := h
    subst e; rfl
  | d :: ds, _, h => by
    obtain ⟨v, vr, rfl, h1, h2⟩ := h
    rw [List.reverse_cons, List.reverse_cons]
    exact (RepL.reverse h2).append ⟨v, [], rfl, h1, rfl⟩
/-! ### slots -/
inductive Fd where
  | d (x : D)
  | ol (xs : List D)
inductive Sl where
  | no
  | v (f : Fd)
  | oo (c : Nat) (fs : List (Str × Fd))
abbrev Env := List Sl
def RepFd (G : Gx) (H : Hp) (Av : Addr → Prop) : Fd → V → List Addr → Prop
  | .d x, v, fp => fp = [] ∧ Rep G H Av x v
  | .ol xs, v, fp => ∃ a vs, v = .ref a ∧ fp = [a] ∧ H a = some (.lst vs) ∧ RepL G H Av xs vs
def RepFs (G : Gx) (H : Hp) (Av : Addr → Prop) : List (Str × Fd) → List (Str × V) → List Addr → Prop
  | [], vs, fp => vs = [] ∧ fp = []
  | (n, f) :: fs, vs, fp => ∃ v vr p q, vs = (n, v) :: vr ∧ fp = p ++ q ∧ RepFd G H Av f v p ∧ RepFs G H Av fs vr q
def RepSl (G : Gx) (H : Hp) (Av : Addr → Prop) : Sl → Option V → List Addr → Prop
  | .no, _, fp => fp = []
  | .v f, o, fp => ∃ v, o = some v ∧ RepFd G H Av f v fp
  | .oo c fs, o, fp => ∃ a dx vs p, o = some (.ref a) ∧ fp = a :: p ∧ H a = some (.ins (G.T.addr c) dx vs) ∧ RepFs G H Av fs vs p
def RepEnv (G : Gx) (H : Hp) (Av : Addr → Prop) : Env → List (Option V) → List Addr → Prop
  | [], σ, F => σ = [] ∧ F = []
  | s :: ρ, σ, F => ∃ o σr p q, σ = o :: σr ∧ F = p ++ q ∧ RepSl G H Av s o p ∧ RepEnv G H Av ρ σr q
/-- Kept, and the owned ones too -/
theorem RepFd.mono (k : Kept H H' Av Av') {f : Fd} {v : V} {fp : List Addr} (hf : ∀ a ∈ fp, H' a = H a) (h : RepFd G H Av f v fp) : RepFd G H' Av' f v fp := by
  cases f with
  | d x => exact ⟨h.1, Rep.mono k x h.2⟩
  | ol xs =>
    obtain ⟨a, vs, e, e2, h1, h2⟩ := h
    refine ⟨a, vs, e, e2, ?_, RepL.mono k xs h2⟩
    rw [hf a (by rw [e2]; exact List.mem_singleton.mpr rfl)]
    exact h1
theorem RepFs.mono (k : Kept H H' Av Av') : ∀ {fs : List (Str × Fd)} {vs : List (Str × V)} {fp : List Addr}, (∀ a ∈ fp, H' a = H a) → RepFs G H Av fs vs fp → RepFs G H' Av' fs vs fp
  | [], _, _, _, h => h
  | (n, f) :: fs, _, _, hf, h => by
    obtain ⟨v, vr, p, q, e1, e2, h1, h2⟩ := h
    exact ⟨v, vr, p, q, e1, e2, h1.mono k fun a ha => hf a (by rw [e2]; exact List.mem_append_left _ ha), RepFs.mono k (fun a ha => hf a (by rw [e2]; exact List.mem_append_right _ ha)) h2⟩
theorem RepSl.mono (k : Kept H H' Av Av') {s : Sl} {o : Option V} {fp : List Addr} (hf : ∀ a ∈ fp, H' a = H a) (h : RepSl G H Av s o fp) : RepSl G H' Av' s o fp := by
  cases s with
  | no => exact h
  | v f => obtain ⟨v, e, h⟩ := h; exact ⟨v, e, h.mono k hf⟩
  | oo c fs =>
    obtain ⟨a, dx, vs, p, e1, e2, h1, h2⟩ := h
    refine ⟨a, dx, vs, p, e1, e2, ?_, h2.mono k fun b hb => hf b (by rw [e2]; exact List.mem_cons_of_mem _ hb)⟩
    rw [hf a (by rw [e2]; exact List.mem_cons_self)]
    exact h1
theorem RepEnv.mono (k : Kept H H' Av Av') : ∀ {ρ : Env} {σ : List (Option V)} {F : List Addr}, (∀ a ∈ F, H' a = H a) → RepEnv G H Av ρ σ F → RepEnv G H' Av' ρ σ F
  | [], _, _, _, h => h
  | s :: ρ, _, _, hf, h => by
    obtain ⟨o, σr, p, q, e1, e2, h1, h2⟩ := h
    exact ⟨o, σr, p, q, e1, e2, h1.mono k fun a ha => hf a (by rw [e2]; exact List.mem_append_left _ ha), RepEnv.mono k (fun a ha => hf a (by rw [e2]; exact List.mem_append_right _ ha)) h2⟩
theorem RepEnv.length : ∀ {ρ : Env} {σ : List (Option V)} {F : List Addr}, RepEnv G H Av ρ σ F → σ.length = ρ.length
  | [], _, _, h => by rw [h.1]; rfl
  | s :: ρ, _, _, h => by
    obtain ⟨o, σr, p, q, e1, e2, h1, h2⟩ := h
    rw [e1, List.length_cons, List.length_cons, RepEnv.length h2]
/-- every owned place is tracked -/
theorem RepFd.dom {f : Fd} {v : V} {fp : List Addr} (h : RepFd G H Av f v fp) : ∀ a ∈ fp, ∃ o, H a = some o ∧ NT o := fun a ha => by
  cases f with
  | d x => rw [h.1] at ha; cases ha
  | ol xs =>
    obtain ⟨b, vs, _, e2, h1, _⟩ := h
    rw [e2] at ha
    rw [List.mem_singleton.mp ha]
    exact ⟨_, h1, fun ps z => by cases z⟩
theorem RepFs.dom : ∀ {fs : List (Str × Fd)} {vs : List (Str × V)} {fp : List Addr}, RepFs G H Av fs vs fp → ∀ a ∈ fp, ∃ o, H a = some o ∧ NT o
  | [], _, _, h, a, ha => by rw [h.2] at ha; cases ha
  | (n, f) :: fs, _, _, h, a, ha => by
    obtain ⟨v, vr, p, q, e1, e2, h1, h2⟩ := h
    rw [e2] at ha
    rcases List.mem_append.mp ha with z | z
    · exact h1.dom a z
    · exact RepFs.dom h2 a z
theorem RepSl.dom {s : Sl} {o : Option V} {fp : List Addr} (h : RepSl G H Av s o fp) : ∀ a ∈ fp, ∃ o, H a = some o ∧ NT o := fun a ha => by
  cases s with
  | no => rw [show fp = [] from h] at ha; cases ha
  | v f => obtain ⟨v, e, h⟩ := h; exact h.dom a ha
  | oo c fs =>
    obtain ⟨b, dx, vs, p, e1, e2, h1, h2⟩ := h
    rw [e2] at ha
    rcases List.mem_cons.mp ha with z | z
    · rw [z]; exact ⟨_, h1, fun ps z => by cases z⟩
    · exact h2.dom a z
theorem RepEnv.dom : ∀ {ρ : Env} {σ : List (Option V)} {F : List Addr}, RepEnv G H Av ρ σ F → ∀ a ∈ F, ∃ o, H a = some o ∧ NT o
  | [], _, _, h, a, ha => by rw [h.2] at ha; cases ha
  | s :: ρ, _, _, h, a, ha => by
    obtain ⟨o, σr, p, q, e1, e2, h1, h2⟩ := h
    rw [e2] at ha
    rcases List.mem_append.mp ha with z | z
    · exact h1.dom a z
    · exact RepEnv.dom h2 a z
/-- one slot brought out -/
theorem RepEnv.focus : ∀ {ρ : Env} {σ : List (Option V)} {F : List Addr} {i : Nat} {s : Sl}, RepEnv G H Av ρ σ F → ρ[i]? = some s →
    ∃ o p1 p p2, σ[i]? = some o ∧ F = p1 ++ p ++ p2 ∧ RepSl G H Av s o p ∧
      ∀ {H' : Hp} {Av' : Addr → Prop} {s' : Sl} {o' : Option V} {p' : List Addr}, Kept H H' Av Av' → (∀ a ∈ p1, H' a = H a) → (∀ a ∈ p2, H' a = H a) → RepSl G H' Av' s' o' p' → RepEnv G H' Av' (ρ.set i s') (σ.set i o') (p1 ++ p' ++ p2)
  | [], _, _, _, _, _, e => by simp at e
  | t :: ρ, _, _, 0, s, h, e => by
    obtain ⟨o, σr, p, q, rfl, rfl, h1, h2⟩ := h
    simp at e
    subst e
    refine ⟨o, [], p, q, rfl, by simp, h1, fun {H' Av' s' o' p'} k k1 k2 r => ?_⟩
    exact ⟨o', σr, p', q, rfl, by simp, r, h2.mono k k2⟩
  | t :: ρ, _, _, i + 1, s, h, e => by
    obtain ⟨o, σr, p, q, rfl, rfl, h1, h2⟩ := h
    obtain ⟨o2, p1, pp, p2, e1, e2, r, f⟩ := RepEnv.focus (i := i) h2 (by simpa using e)
    refine ⟨o2, p ++ p1, pp, p2, by simpa using e1, by rw [e2]; simp [List.append_assoc], r, fun {H' Av' s' o' p'} k k1 k2 r' => ?_⟩
    exact ⟨o, σr.set i o', p, p1 ++ p' ++ p2, rfl, by simp [List.append_assoc], h1.mono k fun a ha => k1 a (List.mem_append_left _ ha), f k (fun a ha => k1 a (List.mem_append_right _ ha)) k2 r'⟩
end
/-- what the frame may not touch; where its self stands, if it makes one -/
structure Gh where
  fb : Addr → Prop
  me : Option Addr := none
/-- what the frame may not touch, and its own: av -/
def avo (Fb : Gh) (F : List Addr) : Addr → Prop := fun a => a ∈ F ∨ Fb.fb a
structure StR (G : Gx) (Fb : Gh) (H : Hp) (σ : L2.St) (ρ : Env) (F : List Addr) : Prop where
  ex : ∃ F0, RepEnv G H (avo Fb F) ρ σ F0 ∧ F0.Nodup ∧ ∀ a ∈ F0, a ∈ F
  dom : ∀ a ∈ F, H a ≠ none
  fb : ∀ a, Fb.fb a → H a ≠ none ∧ a ∉ F
  sf : ∀ a, Fb.me = some a → σ[0]? = some (some (.ref a)) ∧ ∃ c fs, ρ[0]? = some (.oo c fs)
  tb : ∀ a, G.T.tab a → GxR.TabG H a ∧ a ∉ F
theorem StR.tbs {G : Gx} {Fb : Gh} {H : Hp} {σ : L2.St} {ρ : Env} {F : List Addr} (S : StR G Fb H σ ρ F) : ∀ a, G.T.tab a → GxR.TabG H a := fun a h => (S.tb a h).1
theorem StR.av {G : Gx} {Fb : Gh} {H : Hp} {σ : L2.St} {ρ : Env} {F : List Addr} (S : StR G Fb H σ ρ F) : ∀ a, avo Fb F a → H a ≠ none := fun a h => by
  rcases h with h | h
  · exact S.dom a h
  · exact (S.fb a h).1
theorem StR.length {G : Gx} {Fb : Gh} {H : Hp} {σ : L2.St} {ρ : Env} {F : List Addr} (S : StR G Fb H σ ρ F) : σ.length = ρ.length := by
  obtain ⟨F0, e, _⟩ := S.ex
  exact e.length
theorem Kept.same {H H' : Hp} {Av : Addr → Prop} (s : Same H H') : Kept H H' Av Av := ⟨fun a o h _ => s a o h, fun _ h => .inl h⟩
theorem Rep.same {G : Gx} {H H' : Hp} {Av : Addr → Prop} {d : D} {v : V} (h : Rep G H Av d v) (s : Same H H') : Rep G H' Av d v := Rep.mono (Kept.same s) d h
theorem RepL.same {G : Gx} {H H' : Hp} {Av : Addr → Prop} {d : List D} {v : List V} (h : RepL G H Av d v) (s : Same H H') : RepL G H' Av d v := RepL.mono (Kept.same s) d h
theorem tab_upd {H : Hp} {a b : Addr} {o o' : HO} (h : GxR.TabG H b) (e : H a = some o) (n : NT o) : GxR.TabG (upd H a o') b := by
  obtain ⟨ps, h1, h2⟩ := h
  refine ⟨ps, ?_, h2⟩
  rw [upd_ne fun z => ?_]
  · exact h1
  · rw [z, e] at h1
    cases h1
    exact n ps rfl
theorem same_upd {H : Hp} {p : Addr} {o : HO} (h : H p = none) : Same H (upd H p o) := fun b u e => by rw [upd_ne (ne_of_none e h)]; exact .of e
theorem same_at {H H' : Hp} (s : Same H H') {a : Addr} (h : ∃ o, H a = some o ∧ NT o) : H' a = H a := by
  obtain ⟨o, e, n⟩ := h
  rw [e]; exact (s a o e).eq n
theorem StR.same {G : Gx} {Fb : Gh} {H H' : Hp} {σ : L2.St} {ρ : Env} {F : List Addr} (S : StR G Fb H σ ρ F) (s : Same H H') : StR G Fb H' σ ρ F := by
  obtain ⟨F0, e, nd, sub⟩ := S.ex
  exact ⟨⟨F0, e.mono (Kept.same s) (fun a ha => same_at s (e.dom a ha)), nd, sub⟩, fun a h => s.some (S.dom a h), fun a ha => ⟨s.some (S.fb a ha).1, (S.fb a ha).2⟩, S.sf, fun a h => ⟨s.tab (S.tb a h).1, (S.tb a h).2⟩⟩
/-- one slot: read -/
theorem StR.slot {G : Gx} {Fb : Gh} {H : Hp} {σ : L2.St} {ρ : Env} {F : List Addr} (S : StR G Fb H σ ρ F) {i : Nat} {s : Sl} (e : ρ[i]? = some s) : ∃ o p, σ[i]? = some o ∧ RepSl G H (avo Fb F) s o p ∧ ∀ a ∈ p, a ∈ F := by
  obtain ⟨F0, r, nd, sub⟩ := S.ex
  obtain ⟨o, p1, p, p2, e1, e2, r1, _⟩ := r.focus e
  exact ⟨o, p, e1, r1, fun a h => sub a (by rw [e2]; exact List.mem_append_left _ (List.mem_append_right _ h))⟩
/-- what a statement leaves -/
structure Post (H : Hp) (F : List Addr) (H' : Hp) (F' : List Addr) : Prop where
  keep : ∀ a o, H a = some o → a ∉ F → Lke o (H' a)
  own : ∀ a ∈ F', a ∈ F ∨ H a = none
theorem Post.refl {H : Hp} {F : List Addr} : Post H F H F := ⟨fun _ _ h _ => .of h, fun _ h => .inl h⟩
theorem Post.of_same {H H' : Hp} {F : List Addr} (s : Same H H') : Post H F H' F := ⟨fun a o h _ => s a o h, fun _ h => .inl h⟩
theorem Post.trans {H H1 H2 : Hp} {F F1 F2 : List Addr} (p : Post H F H1 F1) (q : Post H1 F1 H2 F2) : Post H F H2 F2 := by
  have no : ∀ a o, H a = some o → a ∉ F → a ∉ F1 := fun a o h n z => by
    rcases p.own a z with r | r
    · exact n r
    · rw [h] at r; cases r
  refine ⟨fun a o h n => (p.keep a o h n).trans fun o' h' => q.keep a o' h' (no a o h n), fun a z => ?_⟩
  rcases q.own a z with r | r
  · exact p.own a r
  · by_cases hA : a ∈ F
    · exact .inl hA
    · cases e : H a with
      | none => exact .inr rfl
      | some o => exact absurd r (p.keep a o e hA).some
/-- a statement that writes no fb -/
theorem Post.kept {Fb : Gh} {H H' : Hp} {F F' : List Addr} (p : Post H F H' F') : Kept H H' (avo Fb F) (avo Fb F') := by
  refine ⟨fun a o h n => p.keep a o h fun z => n (.inl z), fun a z => ?_⟩
  rcases z with z | z
  · rcases p.own a z with r | r
    · exact .inl (.inl r)
    · exact .inr r
  · exact .inl (.inr z)
theorem Post.tab {H H' : Hp} {F F' : List Addr} (p : Post H F H' F') {P : Addr} (h : GxR.TabG H P ∧ P ∉ F) : GxR.TabG H' P ∧ P ∉ F' := by
  obtain ⟨⟨ps, h1, h2⟩, n⟩ := h
  obtain ⟨m, e1, e2⟩ := p.keep P _ h1 n
  refine ⟨⟨_, e1, e2 h2⟩, fun z => ?_⟩
  rcases p.own P z with r | r
  · exact n r
  · rw [h1] at r; cases r
end Cr
/-! Core, part 2: outcomes, the judgements, expressions. -/
namespace Cr
open PySem PySem.Spec PyProof.Rows L2
inductive Exc where
  | own (c : Nat)
  | low (c : Nat) (d : D)
inductive Res (α : Type) where
  | ok (a : α)
  | err (x : Exc)
  | bad
def Res.bind {α β : Type} (r : Res α) (f : α → Res β) : Res β := match r with
  | .ok a => f a
  | .err x => .err x
  | .bad => .bad
instance : Monad Res where
  pure := .ok
  bind := Res.bind
theorem bind_ok {α β : Type} (a : α) (f : α → Res β) : ((Res.ok a : Res α) >>= f) = f a := rfl
theorem bind_err {α β : Type} (x : Exc) (f : α → Res β) : ((Res.err x : Res α) >>= f) = .err x := rfl
theorem bind_bad {α β : Type} (f : α → Res β) : ((Res.bad : Res α) >>= f) = .bad := rfl
theorem pure_ok {α : Type} (a : α) : (pure a : Res α) = .ok a := rfl
abbrev gx (X : Cx) (T : CT) : Gx := ⟨X.K, T⟩
def ExcRep (G : Gx) (H : Hp) : Exc → Value → Option Addr → Prop
  | .own c, cls, d => cls = .ref (G.T.addr c) ∧ d = none
  | .low c x, cls, d => cls = .ref (G.T.addr c) ∧ ∃ a v, d = some a ∧ H a = some (.xd [(low c, v)]) ∧ ∀ Av, Rep G H Av x v
/-! ### readings by what they mean -/
section
variable (X : Cx)
def TWe (e : Expr) : TE := fun σ H Q => ∀ (pins : List (Addr × Obj)) (s : Shared), Inv X pins σ H s → wpAny (model X.prog X.w) X.A (eval e X.env) (EP X pins σ Q) X.xe s
def TWt (e : Expr) : TT := fun σ H Q => ∀ (pins : List (Addr × Obj)) (s : Shared), Inv X pins σ H s → wpAny (model X.prog X.w) X.A (isTrue e X.env (eval e X.env)) (TP X pins σ Q) X.xe s
def TWw (e : Expr) : TT := fun σ H Q => ∀ (whole : Sem Value) (pins : List (Addr × Obj)) (s : Shared), Inv X pins σ H s → wpAny (model X.prog X.w) X.A (isTrue e X.env whole) (TP X pins σ Q) X.xe s
def TWa (es : List Expr) : TA := fun σ H Q => ∀ (pos : Pos) (pins : List (Addr × Obj)) (s : Shared), Inv X pins σ H s → wpAny (model X.prog X.w) X.A (spliced (backTo pos (starEach es X.env))) (AP X pins σ Q) X.xe s
def TWs (st : Stmt) : TS := fun D σ H => ∀ (pins : List (Addr × Obj)) (s : Shared), Inv X pins σ H s → wpAny (model X.prog X.w) X.A (exec st X.env) (SP X pins D) X.xe s
def TWss (st : List Stmt) : TS := fun D σ H => ∀ (pins : List (Addr × Obj)) (s : Shared), Inv X pins σ H s → wpAny (model X.prog X.w) X.A (execs st X.env) (SP X pins D) X.xe s
end
section
variable {X : Cx} {e : Expr} {es : List Expr} {st : Stmt} {sts : List Stmt} {σ : L2.St} {H : Hp}
theorem pe_tw : PE X e (TWe X e) := ⟨fun pins s _ _ _ I h => h pins s I⟩
theorem pt_tw : PT X e (TWt X e) := ⟨fun pins s _ _ _ I h => h pins s I⟩
theorem pw_tw : PW X e (TWw X e) := ⟨fun w pins s _ _ _ I h => h w pins s I⟩
theorem pa_tw : PA X es (TWa X es) := ⟨fun pos pins s _ _ _ I h => h pos pins s I⟩
theorem ps_tw : PS X st (TWs X st) := ⟨fun pins s _ _ _ I h => h pins s I⟩
theorem pss_tw : PSs X sts (TWss X sts) := ⟨fun pins s _ _ _ I h => h pins s I⟩
theorem _root_.L2.PE.tw {t : TE} {Q : VK} (h : PE X e t) (q : t σ H Q) : TWe X e σ H Q := fun pins s I => h.run pins s σ H Q I q
theorem _root_.L2.PT.tw {t : TT} {Q : Bool → Hp → Prop} (h : PT X e t) (q : t σ H Q) : TWt X e σ H Q := fun pins s I => h.run pins s σ H Q I q
theorem _root_.L2.PW.tw {t : TT} {Q : Bool → Hp → Prop} (h : PW X e t) (q : t σ H Q) : TWw X e σ H Q := fun w pins s I => h.run w pins s σ H Q I q
theorem _root_.L2.PA.tw {t : TA} {Q : List V → Hp → Prop} (h : PA X es t) (q : t σ H Q) : TWa X es σ H Q := fun pos pins s I => h.run pos pins s σ H Q I q
theorem _root_.L2.PS.tw {t : TS} {D : Ends} (h : PS X st t) (q : t D σ H) : TWs X st D σ H := fun pins s I => h.run pins s σ H D I q
theorem _root_.L2.PSs.tw {t : TS} {D : Ends} (h : PSs X sts t) (q : t D σ H) : TWss X sts D σ H := fun pins s I => h.run pins s σ H D I q
theorem TWe.imp {Q Q' : VK} (h : TWe X e σ H Q) (f : ∀ v H', Q v H' → Q' v H') : TWe X e σ H Q' := fun pins s I => thn (h pins s I) fun u s1 ⟨v, H1, I1, r, q⟩ => ⟨v, H1, I1, r, f _ _ q⟩
end
/-! ### outcomes -/
def ErrOk (X : Cx) (T : CT) (σ : L2.St) (H : Hp) (x : Exc) : Prop :=
  ∃ W : WX, Takes X W ∧ ∀ cls d H', Same H H' → ExcRep (gx X T) H' x cls d → W cls d σ H'
def Out {α : Type} (X : Cx) (T : CT) (σ : L2.St) (H : Hp) (r : Res α) (P : α → Prop) : Prop := match r with
  | .ok a => P a
  | .err x => ErrOk X T σ H x
  | .bad => False
section
variable {X : Cx} {T : CT} {σ : L2.St} {H H' : Hp} {α β : Type}
theorem ErrOk.same {x : Exc} (h : ErrOk X T σ H x) (s : Same H H') : ErrOk X T σ H' x := by
  obtain ⟨W, tk, f⟩ := h
  exact ⟨W, tk, fun cls d H2 s2 r => f cls d H2 (s.trans s2) r⟩
theorem Out.imp {r : Res α} {P P' : α → Prop} (h : Out X T σ H r P) (f : ∀ a, r = .ok a → P a → P' a) : Out X T σ H r P' := by
  cases r with
  | ok a => exact f a rfl h
  | err x => exact h
  | bad => exact h
theorem Out.same {r : Res α} {P : α → Prop} (h : Out X T σ H r P) (s : Same H H') : Out X T σ H' r P := by
  cases r with
  | ok a => exact h
  | err x => exact ErrOk.same h s
  | bad => exact h
theorem Out.bind {r : Res α} {f : α → Res β} {P : β → Prop} (h : Out X T σ H (r >>= f) P) : Out X T σ H r fun a => Out X T σ H (f a) P := by
  cases r with
  | ok a => exact h
  | err x => exact h
  | bad => exact h
end
/-! ### the judgements -/
/-- the value may be an owned list -/
def RepB (G : Gx) (H : Hp) (Av : Addr → Prop) : D → V → Prop
  | .lst ds, v => ∃ a vs, v = .ref a ∧ H a = some (.lst vs) ∧ RepL G H Av ds vs
  | d, v => Rep G H Av d v
theorem Rep.b {G : Gx} {H : Hp} {Av : Addr → Prop} {d : D} {v : V} (h : Rep G H Av d v) : RepB G H Av d v := by
  cases d <;> first | exact h | (obtain ⟨a, vs, e, h1, h2⟩ := h; exact ⟨a, vs, e, h1.1, h2⟩)
theorem RepB.same {G : Gx} {H H' : Hp} {Av : Addr → Prop} {d : D} {v : V} (h : RepB G H Av d v) (s : Same H H') : RepB G H' Av d v := by
  cases d <;> first | exact Rep.same h s | (obtain ⟨a, vs, e, h1, h2⟩ := h; exact ⟨a, vs, e, s _ _ h1, RepL.same h2 s⟩)
theorem kept_less {H : Hp} {Av : Addr → Prop} {p : Addr} : Kept H H (fun a => a = p ∨ Av a) Av := ⟨fun _ _ h _ => .of h, fun _ z => .inl (.inr z)⟩
theorem kept_new {H : Hp} {Av : Addr → Prop} {p : Addr} {o : HO} (hp : H p = none) : Kept H (upd H p o) Av (fun a => a = p ∨ Av a) :=
  ⟨fun a u h _ => by rw [upd_ne (ne_of_none h hp)]; exact .of h, fun a z => z.elim (fun q => .inr (by rw [q]; exact hp)) .inl⟩
theorem RepL.new {G : Gx} {H : Hp} {Av : Addr → Prop} {ds : List D} {vs : List V} {p : Addr} {o : HO} (r : RepL G H Av ds vs) (hp : H p = none) : RepL G (upd H p o) (fun a => a = p ∨ Av a) ds vs := RepL.mono (kept_new hp) ds r
section
variable (T : CT) (Fb : Gh) (X : Cx)
structure ME (e : Expr) (m : Env → Res D) : Prop where
  run : ∀ (σ : L2.St) (H : Hp) (F : List Addr) (ρ : Env) (Q : VK), StR (gx X T) Fb H σ ρ F →
    Out X T σ H (m ρ) (fun d => ∀ v H', Same H H' → Rep (gx X T) H' (avo Fb F) d v → Q v H') → TWe X e σ H Q
structure MB (e : Expr) (m : Env → Res D) : Prop where
  run : ∀ (σ : L2.St) (H : Hp) (F : List Addr) (ρ : Env) (Q : VK), StR (gx X T) Fb H σ ρ F →
    Out X T σ H (m ρ) (fun d => ∀ v H', Same H H' → RepB (gx X T) H' (avo Fb F) d v → Q v H') → TWe X e σ H Q
/-- a new list -/
structure MF (e : Expr) (m : Env → Res (List D)) : Prop where
  run : ∀ (σ : L2.St) (H : Hp) (F : List Addr) (ρ : Env) (Q : VK), StR (gx X T) Fb H σ ρ F →
    Out X T σ H (m ρ) (fun ds => ∀ p vs H', H p = none → Same H H' → H' p = some (.lst vs) → RepL (gx X T) H' (fun a => a = p ∨ avo Fb F a) ds vs → Q (.ref p) H') → TWe X e σ H Q
structure MT (e : Expr) (m : Env → Res Bool) : Prop where
  run : ∀ (σ : L2.St) (H : Hp) (F : List Addr) (ρ : Env) (Q : Bool → Hp → Prop), StR (gx X T) Fb H σ ρ F →
    Out X T σ H (m ρ) (fun b => ∀ H', Same H H' → Q b H') → TWt X e σ H Q
structure MW (e : Expr) (m : Env → Res Bool) : Prop where
  run : ∀ (σ : L2.St) (H : Hp) (F : List Addr) (ρ : Env) (Q : Bool → Hp → Prop), StR (gx X T) Fb H σ ρ F →
    Out X T σ H (m ρ) (fun b => ∀ H', Same H H' → Q b H') → TWw X e σ H Q
/-- arguments that are handed on -/
structure ML (es : List Expr) (m : Env → Res (List D)) : Prop where
  run : ∀ (σ : L2.St) (H : Hp) (F : List Addr) (ρ : Env) (Q : List V → Hp → Prop), StR (gx X T) Fb H σ ρ F →
    Out X T σ H (m ρ) (fun ds => ∀ vs H', Same H H' → RepL (gx X T) H' (avo Fb F) ds vs → Q vs H') → TWa X es σ H Q
end
section
variable {T : CT} {Fb : Gh} {X : Cx} {e a b c : Expr} {es : List Expr} {m ma mb mc : Env → Res D} {pos : Pos}
theorem ME.toB (h : ME T Fb X e m) : MB T Fb X e m := ⟨fun σ H F ρ Q S o => h.run σ H F ρ Q S (o.imp fun d _ f v H' s r => f v H' s r.b)⟩
def toE (m : Env → Res (List D)) : Env → Res D := fun ρ => m ρ >>= fun ds => .ok (.lst ds)
theorem MF.toE {m : Env → Res (List D)} (h : MF T Fb X e m) : ME T Fb X e (toE m) :=
  ⟨fun σ H F ρ Q S o => h.run σ H F ρ Q S (o.bind.imp fun ds _ f p vs H' np s hp r => f _ _ s ⟨p, vs, rfl, ⟨hp, fun z => absurd np (S.av p z)⟩, RepL.mono kept_less ds r⟩)⟩
theorem MW.toT {m : Env → Res Bool} (h : MW T Fb X e m) : MT T Fb X e m := ⟨fun σ H F ρ Q S o pins s I => h.run σ H F ρ Q S o _ pins s I⟩
/-! ### names and constants -/
def mVar (i : Nat) : Env → Res D := fun ρ => match ρ[i]? with
  | some (.v (.d x)) => .ok x
  | _ => .bad
def mVarB (i : Nat) : Env → Res D := fun ρ => match ρ[i]? with
  | some (.v (.d x)) => .ok x
  | some (.v (.ol xs)) => .ok (.lst xs)
  | _ => .bad
theorem me_var (i : Nat) {x : Str} (hN : X.N[i]? = some x := by rfl) (hv : Vis X.env.scope x := by first | exact Or.inl rfl | exact Or.inr (Or.inl rfl) | exact Or.inr (Or.inr rfl))
    (hd : (x == ("__debug__" : Str)) = false := by decide) (hcd : (x == ("__classdict__" : Str)) = false := by decide) : ME T Fb X (.Name x pos) (mVar i) := by
  refine ⟨fun σ H F ρ Q S o => ?_⟩
  refine (pe_var hN hv hd hcd).tw ?_
  unfold mVar at o
  split at o
  · rename_i x e
    obtain ⟨o', p, e1, r, _⟩ := S.slot e
    obtain ⟨v, rfl, r⟩ := r
    exact ⟨v, e1, o v H (Same.refl H) r.2⟩
  · exact False.elim o
theorem mb_var (i : Nat) {x : Str} (hN : X.N[i]? = some x := by rfl) (hv : Vis X.env.scope x := by first | exact Or.inl rfl | exact Or.inr (Or.inl rfl) | exact Or.inr (Or.inr rfl))
    (hd : (x == ("__debug__" : Str)) = false := by decide) (hcd : (x == ("__classdict__" : Str)) = false := by decide) : MB T Fb X (.Name x pos) (mVarB i) := by
  refine ⟨fun σ H F ρ Q S o => ?_⟩
  refine (pe_var hN hv hd hcd).tw ?_
  unfold mVarB at o
  split at o
  · rename_i x e
    obtain ⟨o', p, e1, r, _⟩ := S.slot e
    obtain ⟨v, rfl, r⟩ := r
    exact ⟨v, e1, o v H (Same.refl H) r.2.b⟩
  · rename_i xs e
    obtain ⟨o', p, e1, r, _⟩ := S.slot e
    obtain ⟨v, rfl, a, vs, rfl, _, h1, h2⟩ := r
    exact ⟨_, e1, o _ H (Same.refl H) ⟨a, vs, rfl, h1, h2⟩⟩
  · exact False.elim o
def mC (d : D) : Env → Res D := fun _ => .ok d
theorem me_int {i j} : ME T Fb X (.Constant (.int i) j pos) (mC (.int i)) := ⟨fun σ H F ρ Q S o => pe_int.tw (o _ _ (Same.refl H) rfl)⟩
theorem me_bl {b j} : ME T Fb X (.Constant (.bool b) j pos) (mC (.bl b)) := ⟨fun σ H F ρ Q S o => pe_bl.tw (o _ _ (Same.refl H) rfl)⟩
theorem me_non {j} : ME T Fb X (.Constant .none j pos) (mC .non) := ⟨fun σ H F ρ Q S o => pe_non.tw (o _ _ (Same.refl H) rfl)⟩
theorem me_str {x j} : ME T Fb X (.Constant (.str x) j pos) (mC (.str x)) := ⟨fun σ H F ρ Q S o => pe_str.tw (o _ _ (Same.refl H) rfl)⟩
/-- a constant of the module -/
def GloD (K : PySem.W.Frag) (T : CT) (mg : Str → Option Value) (x : Str) (d : D) : Prop := ∃ u v, mg x = some u ∧ RelV v u ∧ ∀ H Av, Rep ⟨K, T⟩ H Av d v
theorem me_glo {x : Str} {d : D} (g : GloD X.K T X.mg x d) (hg : Gl X x := by rfl) (hd : (x == ("__debug__" : Str)) = false := by decide) : ME T Fb X (.Name x pos) (mC d) := by
  obtain ⟨u, v, e, r, f⟩ := g
  exact ⟨fun σ H F ρ Q S o => (pe_glob hg e r hd).tw (o _ _ (Same.refl H) (f _ _))⟩
/-! ### operations on values -/
/-- a two-place operation with its mirror -/
structure OpM (T : CT) (X : Cx) (f : Value → Value → Sem Value) (g : D → D → Res D) : Prop where
  ex : ∃ r : R2, OpR X f r ∧ ∀ (σ : L2.St) (H : Hp) (Av : Addr → Prop) (dx dy : D) (x y : V) (Q : VK), (∀ a, Av a → H a ≠ none) → RepB (gx X T) H Av dx x → RepB (gx X T) H Av dy y →
    Out X T σ H (g dx dy) (fun d => ∀ v H', Same H H' → Rep (gx X T) H' Av d v → Q v H') → r x y H Q
def mBin (g : D → D → Res D) (ma mb : Env → Res D) : Env → Res D := fun ρ => ma ρ >>= fun x => mb ρ >>= fun y => g x y
theorem me_bin {op : Operator} {g : D → D → Res D} (ho : OpM T X (binaryOp op) g) (ha : MB T Fb X a ma) (hb : MB T Fb X b mb) : ME T Fb X (.BinOp a op b pos) (mBin g ma mb) := by
  obtain ⟨r, hr, hf⟩ := ho.ex
  refine ⟨fun σ H F ρ Q S o => (pe_op hr pe_tw pe_tw).tw ?_⟩
  refine ha.run σ H F ρ _ S (o.bind.imp fun x _ o1 v H1 s1 r1 => ?_)
  refine hb.run σ H1 F ρ _ (S.same s1) ((o1.same s1).bind.imp fun y _ o2 u H2 s2 r2 => ?_)
  exact hf σ H2 (avo Fb F) x y v u Q ((S.same s1).same s2).av (r1.same s2) r2 ((o2.same s2).imp fun d _ f w H' s3 r3 => f w H' (s1.trans (s2.trans s3)) r3)
theorem me_cmp {op : CmpOp} {g : D → D → Res D} (ho : OpM T X (compareOp op) g) (ha : MB T Fb X a ma) (hb : MB T Fb X b mb) (hm : behindInMarks op b = false := by first | exact nomark _ | rfl | with_unfolding_all rfl) :
    ME T Fb X (.Compare a [op] [b] pos) (mBin g ma mb) := by
  obtain ⟨r, hr, hf⟩ := ho.ex
  refine ⟨fun σ H F ρ Q S o => (pe_cmpR hr pe_tw pe_tw hm).tw ?_⟩
  refine ha.run σ H F ρ _ S (o.bind.imp fun x _ o1 v H1 s1 r1 => ?_)
  refine hb.run σ H1 F ρ _ (S.same s1) ((o1.same s1).bind.imp fun y _ o2 u H2 s2 r2 => ?_)
  exact hf σ H2 (avo Fb F) x y v u Q ((S.same s1).same s2).av (r1.same s2) r2 ((o2.same s2).imp fun d _ f w H' s3 r3 => f w H' (s1.trans (s2.trans s3)) r3)
/-- a value as a truth: only True and False -/
def tru : D → Res Bool
  | .bl b => .ok b
  | _ => .bad
def mTst (m : Env → Res D) : Env → Res Bool := fun ρ => m ρ >>= tru
theorem mt_cmp {op : CmpOp} {g : D → D → Res D} (ho : OpM T X (compareOp op) g) (ha : MB T Fb X a ma) (hb : MB T Fb X b mb) (hm : behindInMarks op b = false := by first | exact nomark _ | rfl | with_unfolding_all rfl) :
    MT T Fb X (.Compare a [op] [b] pos) (mTst (mBin g ma mb)) := by
  obtain ⟨r, hr, hf⟩ := ho.ex
  refine ⟨fun σ H F ρ Q S o => (pt_cmpR hr pe_tw pe_tw hm).tw ?_⟩
  refine ha.run σ H F ρ _ S (o.bind.bind.imp fun x _ o1 v H1 s1 r1 => ?_)
  refine hb.run σ H1 F ρ _ (S.same s1) ((o1.same s1).bind.imp fun y _ o2 u H2 s2 r2 => ?_)
  refine hf σ H2 (avo Fb F) x y v u _ ((S.same s1).same s2).av (r1.same s2) r2 ((o2.same s2).imp fun d _ f w H' s3 r3 => ?_)
  cases d with
  | bl k => exact ⟨k, r3, f H' (s1.trans (s2.trans s3))⟩
  | _ => exact False.elim f
/-- a test by a value True or False -/
theorem mt_val (h : ME T Fb X e m) (he : ∀ whole, isTrue e X.env whole = (do let v ← whole; standAt e.pos; holding [v] (truthy v)) := by intro _; rfl) : MT T Fb X e (mTst m) := by
  refine ⟨fun σ H F ρ Q S o => (pt_val pe_tw he).tw ?_⟩
  refine h.run σ H F ρ _ S (o.bind.imp fun d _ f v H' s r => ?_)
  cases d with
  | bl k => exact ⟨k, r, f H' s⟩
  | _ => exact False.elim f
/-- a op b op' c -/
def mChain (g g' : D → D → Res D) (ma mb mc : Env → Res D) : Env → Res D := fun ρ => ma ρ >>= fun x => mb ρ >>= fun y => (g x y >>= tru) >>= fun k => match k with
  | true => mc ρ >>= fun z => g' y z
  | false => .ok (.bl false)
theorem chain_core {op op' : CmpOp} {g g' : D → D → Res D} {r r' : R2} {σ : L2.St} {H : Hp} {F : List Addr} {ρ : Env} {Q : VK}
    (hf : ∀ (σ : L2.St) (H : Hp) (Av : Addr → Prop) (dx dy : D) (x y : V) (Q : VK), (∀ a, Av a → H a ≠ none) → RepB (gx X T) H Av dx x → RepB (gx X T) H Av dy y →
      Out X T σ H (g dx dy) (fun d => ∀ v H', Same H H' → Rep (gx X T) H' Av d v → Q v H') → r x y H Q)
    (hf' : ∀ (σ : L2.St) (H : Hp) (Av : Addr → Prop) (dx dy : D) (x y : V) (Q : VK), (∀ a, Av a → H a ≠ none) → RepB (gx X T) H Av dx x → RepB (gx X T) H Av dy y →
      Out X T σ H (g' dx dy) (fun d => ∀ v H', Same H H' → Rep (gx X T) H' Av d v → Q v H') → r' x y H Q)
    (ha : MB T Fb X a ma) (hb : MB T Fb X b mb) (hc : MB T Fb X c mc) (S : StR (gx X T) Fb H σ ρ F)
    (o : Out X T σ H (mChain g g' ma mb mc ρ) fun d => ∀ v H', Same H H' → Rep (gx X T) H' (avo Fb F) d v → Q v H') : tChain r r' (TWe X a) (TWe X b) (TWe X c) σ H Q := by
  refine ha.run σ H F ρ _ S (o.bind.imp fun x _ o1 v H1 s1 r1 => ?_)
  refine hb.run σ H1 F ρ _ (S.same s1) ((o1.same s1).bind.imp fun y _ o2 u H2 s2 r2 => ?_)
  have S2 := (S.same s1).same s2
  refine hf σ H2 (avo Fb F) x y v u _ S2.av (r1.same s2) r2 ((o2.same s2).bind.bind.imp fun d _ o3 w H3 s3 r3 => ?_)
  cases d with
  | bl k =>
    refine ⟨k, r3, ?_⟩
    have o4 : Out X T σ H2 (match k with | true => mc ρ >>= fun z => g' y z | false => .ok (.bl false)) fun d => ∀ v H', Same H H' → Rep (gx X T) H' (avo Fb F) d v → Q v H' := o3
    cases k with
    | true =>
      rw [if_pos rfl]
      refine hc.run σ H3 F ρ _ (S2.same s3) ((o4.same s3).bind.imp fun z _ o5 w' H4 s4 r4 => ?_)
      exact hf' σ H4 (avo Fb F) y z u w' Q ((S2.same s3).same s4).av ((r2.same s3).same s4) r4 ((o5.same s4).imp fun d _ f w H' s5 r5 => f w H' (s1.trans (s2.trans (s3.trans (s4.trans s5)))) r5)
    | false =>
      rw [if_neg Bool.false_ne_true]
      exact o4 _ _ (s1.trans (s2.trans s3)) rfl
  | _ => exact False.elim o3
theorem me_chain {op op' : CmpOp} {g g' : D → D → Res D} (ho : OpM T X (compareOp op) g) (ho' : OpM T X (compareOp op') g') (ha : MB T Fb X a ma) (hb : MB T Fb X b mb) (hc : MB T Fb X c mc)
    (hm : lastMarks [op, op'] [b, c] = false := by with_unfolding_all rfl) : ME T Fb X (.Compare a [op, op'] [b, c] pos) (mChain g g' ma mb mc) := by
  obtain ⟨r, hr, hf⟩ := ho.ex
  obtain ⟨r', hr', hf'⟩ := ho'.ex
  exact ⟨fun σ H F ρ Q S o => (pe_chain hr hr' pe_tw pe_tw pe_tw hm).tw (chain_core (op := op) (op' := op') hf hf' ha hb hc S o)⟩
theorem mt_chain {op op' : CmpOp} {g g' : D → D → Res D} (ho : OpM T X (compareOp op) g) (ho' : OpM T X (compareOp op') g') (ha : MB T Fb X a ma) (hb : MB T Fb X b mb) (hc : MB T Fb X c mc)
    (hm : lastMarks [op, op'] [b, c] = false := by with_unfolding_all rfl) : MT T Fb X (.Compare a [op, op'] [b, c] pos) (mTst (mChain g g' ma mb mc)) := by
  obtain ⟨r, hr, hf⟩ := ho.ex
  obtain ⟨r', hr', hf'⟩ := ho'.ex
  refine ⟨fun σ H F ρ Q S o => (pt_chain hr hr' pe_tw pe_tw pe_tw hm).tw (chain_core (op := op) (op' := op') hf hf' ha hb hc S (o.bind.imp fun d _ f v H' s r => ?_))⟩
  cases d with
  | bl k => exact ⟨k, r, f H' s⟩
  | _ => exact False.elim f
/-! ### and, or, not, if -/
def mAnd (ta tb : Env → Res Bool) : Env → Res Bool := fun ρ => ta ρ >>= fun k => match k with
  | true => tb ρ
  | false => .ok false
def mOr (ta tb : Env → Res Bool) : Env → Res Bool := fun ρ => ta ρ >>= fun k => match k with
  | true => .ok true
  | false => tb ρ
def mNot (t : Env → Res Bool) : Env → Res Bool := fun ρ => t ρ >>= fun k => .ok (!k)
variable {ta tb : Env → Res Bool} {rest : List Expr}
theorem mw_and1 (ha : MT T Fb X a ta) : MW T Fb X (.BoolOp .And [a] pos) ta := ⟨fun σ H F ρ Q S o => (pw_and1 pt_tw).tw (ha.run σ H F ρ Q S o)⟩
theorem mw_or1 (ha : MT T Fb X a ta) : MW T Fb X (.BoolOp .Or [a] pos) ta := ⟨fun σ H F ρ Q S o => (pw_or1 pt_tw).tw (ha.run σ H F ρ Q S o)⟩
theorem mw_and (ha : MT T Fb X a ta) (hb : MW T Fb X (.BoolOp .And (b :: rest) pos) tb) : MW T Fb X (.BoolOp .And (a :: b :: rest) pos) (mAnd ta tb) := by
  refine ⟨fun σ H F ρ Q S o => (pw_and pt_tw pw_tw).tw ?_⟩
  refine ha.run σ H F ρ _ S (o.bind.imp fun k _ o1 H1 s1 => ?_)
  have o2 : Out X T σ H (match k with | true => tb ρ | false => .ok false) fun b => ∀ H', Same H H' → Q b H' := o1
  cases k with
  | true => exact iteT (hb.run σ H1 F ρ _ (S.same s1) ((o2.same s1).imp fun b _ f H2 s2 => f H2 (s1.trans s2)))
  | false => exact iteF (o2 H1 s1)
theorem mw_or (ha : MT T Fb X a ta) (hb : MW T Fb X (.BoolOp .Or (b :: rest) pos) tb) : MW T Fb X (.BoolOp .Or (a :: b :: rest) pos) (mOr ta tb) := by
  refine ⟨fun σ H F ρ Q S o => (pw_or pt_tw pw_tw).tw ?_⟩
  refine ha.run σ H F ρ _ S (o.bind.imp fun k _ o1 H1 s1 => ?_)
  have o2 : Out X T σ H (match k with | true => .ok true | false => tb ρ) fun b => ∀ H', Same H H' → Q b H' := o1
  cases k with
  | true => exact iteT (o2 H1 s1)
  | false => exact iteF (hb.run σ H1 F ρ _ (S.same s1) ((o2.same s1).imp fun b _ f H2 s2 => f H2 (s1.trans s2)))
theorem mt_not (ha : MT T Fb X a ta) : MT T Fb X (.UnaryOp .Not a pos) (mNot ta) :=
  ⟨fun σ H F ρ Q S o => (pt_not pt_tw).tw (ha.run σ H F ρ _ S (o.bind.imp fun k _ f H1 s1 => f H1 s1))⟩
/-- .. as values -/
def mAndV (ma mb : Env → Res D) : Env → Res D := fun ρ => (ma ρ >>= tru) >>= fun k => match k with
  | true => mb ρ
  | false => .ok (.bl false)
def mOrV (ma mb : Env → Res D) : Env → Res D := fun ρ => (ma ρ >>= tru) >>= fun k => match k with
  | true => .ok (.bl true)
  | false => mb ρ
def mNotV (ma : Env → Res D) : Env → Res D := fun ρ => (ma ρ >>= tru) >>= fun k => .ok (.bl (!k))
theorem me_one {op} (h : ME T Fb X a ma) : ME T Fb X (.BoolOp op [a] pos) ma := ⟨fun σ H F ρ Q S o => (pe_one pe_tw).tw (h.run σ H F ρ Q S o)⟩
theorem me_and (ha : ME T Fb X a ma) (hb : ME T Fb X (.BoolOp .And (b :: rest) pos) mb) : ME T Fb X (.BoolOp .And (a :: b :: rest) pos) (mAndV ma mb) := by
  refine ⟨fun σ H F ρ Q S o => (pe_and pe_tw pe_tw).tw ?_⟩
  refine ha.run σ H F ρ _ S (o.bind.bind.imp fun d _ o1 v H1 s1 r1 => ?_)
  cases d with
  | bl k =>
    refine ⟨k, r1, ?_⟩
    have o2 : Out X T σ H (match k with | true => mb ρ | false => .ok (.bl false)) fun d => ∀ v H', Same H H' → Rep (gx X T) H' (avo Fb F) d v → Q v H' := o1
    cases k with
    | true => exact iteT (hb.run σ H1 F ρ _ (S.same s1) ((o2.same s1).imp fun b _ f v H2 s2 r => f v H2 (s1.trans s2) r))
    | false => exact iteF (o2 _ _ s1 rfl)
  | _ => exact False.elim o1
theorem me_or (ha : ME T Fb X a ma) (hb : ME T Fb X (.BoolOp .Or (b :: rest) pos) mb) : ME T Fb X (.BoolOp .Or (a :: b :: rest) pos) (mOrV ma mb) := by
  refine ⟨fun σ H F ρ Q S o => (pe_or pe_tw pe_tw).tw ?_⟩
  refine ha.run σ H F ρ _ S (o.bind.bind.imp fun d _ o1 v H1 s1 r1 => ?_)
  cases d with
  | bl k =>
    refine ⟨k, r1, ?_⟩
    have o2 : Out X T σ H (match k with | true => .ok (.bl true) | false => mb ρ) fun d => ∀ v H', Same H H' → Rep (gx X T) H' (avo Fb F) d v → Q v H' := o1
    cases k with
    | true => exact iteT (o2 _ _ s1 rfl)
    | false => exact iteF (hb.run σ H1 F ρ _ (S.same s1) ((o2.same s1).imp fun b _ f v H2 s2 r => f v H2 (s1.trans s2) r))
  | _ => exact False.elim o1
theorem me_not (ha : ME T Fb X a ma) : ME T Fb X (.UnaryOp .Not a pos) (mNotV ma) := by
  refine ⟨fun σ H F ρ Q S o => (pe_not pe_tw).tw ?_⟩
  refine ha.run σ H F ρ _ S (o.bind.bind.imp fun d _ o1 v H1 s1 r1 => ?_)
  cases d with
  | bl k => exact ⟨k, r1, o1 _ _ s1 rfl⟩
  | _ => exact False.elim o1
def mIf {α : Type} (t : Env → Res Bool) (ma mb : Env → Res α) : Env → Res α := fun ρ => t ρ >>= fun k => match k with
  | true => ma ρ
  | false => mb ρ
theorem me_if {t : Env → Res Bool} (hc : MT T Fb X c t) (ha : ME T Fb X a ma) (hb : ME T Fb X b mb) : ME T Fb X (.IfExp c a b pos) (mIf t ma mb) := by
  refine ⟨fun σ H F ρ Q S o => (pe_ifExp pt_tw pe_tw pe_tw).tw ?_⟩
  refine hc.run σ H F ρ _ S (o.bind.imp fun k _ o1 H1 s1 => ?_)
  have o2 : Out X T σ H (match k with | true => ma ρ | false => mb ρ) fun d => ∀ v H', Same H H' → Rep (gx X T) H' (avo Fb F) d v → Q v H' := o1
  cases k with
  | true => exact iteT (ha.run σ H1 F ρ _ (S.same s1) ((o2.same s1).imp fun b _ f v H2 s2 r => f v H2 (s1.trans s2) r))
  | false => exact iteF (hb.run σ H1 F ρ _ (S.same s1) ((o2.same s1).imp fun b _ f v H2 s2 r => f v H2 (s1.trans s2) r))
/-! ### arguments, displays -/
def mNil : Env → Res (List D) := fun _ => .ok []
def mCons (ma : Env → Res D) (mr : Env → Res (List D)) : Env → Res (List D) := fun ρ => ma ρ >>= fun x => mr ρ >>= fun xs => .ok (x :: xs)
theorem ml_nil : ML T Fb X [] mNil := ⟨fun σ H F ρ Q S o => pa_nil.tw (o _ _ (Same.refl H) rfl)⟩
theorem ml_cons {mr : Env → Res (List D)} (ha : ME T Fb X e ma) (hr : ML T Fb X es mr) (hs : starEach (e :: es) X.env = (false, eval e X.env) :: starEach es X.env := by rfl) : ML T Fb X (e :: es) (mCons ma mr) := by
  refine ⟨fun σ H F ρ Q S o => (pa_cons pe_tw pa_tw hs).tw ?_⟩
  refine ha.run σ H F ρ _ S (o.bind.imp fun x _ o1 v H1 s1 r1 => ?_)
  refine hr.run σ H1 F ρ _ (S.same s1) ((o1.same s1).bind.imp fun xs _ f vs H2 s2 r2 => ?_)
  exact f _ _ (s1.trans s2) ⟨v, vs, rfl, r1.same s2, r2⟩
/-- the first argument borrowed -/
structure MLb (T : CT) (Fb : Gh) (X : Cx) (es : List Expr) (m : Env → Res (List D)) : Prop where
  run : ∀ (σ : L2.St) (H : Hp) (F : List Addr) (ρ : Env) (Q : List V → Hp → Prop), StR (gx X T) Fb H σ ρ F →
    Out X T σ H (m ρ) (fun ds => ∀ vs H', Same H H' → Paired (RepB (gx X T) H' (avo Fb F)) ds vs → Q vs H') → TWa X es σ H Q
theorem mlb_nil : MLb T Fb X [] mNil := ⟨fun σ H F ρ Q S o => pa_nil.tw (o _ _ (Same.refl H) .nil)⟩
theorem paired_same {G : Gx} {H H' : Hp} {Av : Addr → Prop} (s : Same H H') : ∀ {ds : List D} {vs : List V}, Paired (RepB G H Av) ds vs → Paired (RepB G H' Av) ds vs
  | _, _, .nil => .nil
  | _, _, .cons r t => .cons (r.same s) (paired_same s t)
theorem mlb_cons {mr : Env → Res (List D)} (ha : MB T Fb X e ma) (hr : MLb T Fb X es mr) (hs : starEach (e :: es) X.env = (false, eval e X.env) :: starEach es X.env := by rfl) : MLb T Fb X (e :: es) (mCons ma mr) := by
  refine ⟨fun σ H F ρ Q S o => (pa_cons pe_tw pa_tw hs).tw ?_⟩
  refine ha.run σ H F ρ _ S (o.bind.imp fun x _ o1 v H1 s1 r1 => ?_)
  refine hr.run σ H1 F ρ _ (S.same s1) ((o1.same s1).bind.imp fun xs _ f vs H2 s2 r2 => ?_)
  exact f _ _ (s1.trans s2) (.cons (r1.same s2) r2)
def mTup (m : Env → Res (List D)) : Env → Res D := fun ρ => m ρ >>= fun xs => if xs.length ≤ sizeLine then .ok (.tup xs) else .bad
theorem avo_no {Fb : Gh} {H : Hp} {F : List Addr} (S : ∀ a, avo Fb F a → H a ≠ none) {p : Addr} (h : H p = none) : ¬ avo Fb F p := fun z => absurd h (S p z)
theorem me_tup {x1} {m : Env → Res (List D)} (h : ML T Fb X es m) : ME T Fb X (.Tuple es x1 pos) (mTup m) := by
  refine ⟨fun σ H F ρ Q S o => (pe_tup pa_tw).tw ?_⟩
  refine h.run σ H F ρ _ S (o.bind.imp fun xs _ o1 vs H1 s1 r1 => ?_)
  by_cases hz : xs.length ≤ sizeLine
  · have o2 : ∀ v H', Same H H' → Rep (gx X T) H' (avo Fb F) (.tup xs) v → Q v H' := by
      have o1 : Out X T σ H (if xs.length ≤ sizeLine then Res.ok (D.tup xs) else .bad) _ := o1
      rw [if_pos hz] at o1
      exact o1
    refine ⟨by rw [r1.length]; exact hz, fun p hp => o2 _ _ (s1.trans (same_upd hp)) ⟨p, vs, rfl, .inl ⟨upd_same, avo_no (S.same s1).av hp⟩, r1.same (same_upd hp)⟩⟩
  · have o1 : Out X T σ H (if xs.length ≤ sizeLine then Res.ok (D.tup xs) else .bad) _ := o1
    rw [if_neg hz] at o1
    exact False.elim o1
def mLst (m : Env → Res (List D)) : Env → Res (List D) := fun ρ => m ρ >>= fun xs => if xs.length ≤ sizeLine then .ok xs else .bad
theorem mf_lst {m : Env → Res (List D)} (h : ML T Fb X es m) : MF T Fb X (.List es pos) (mLst m) := by
  refine ⟨fun σ H F ρ Q S o => (pe_lst pa_tw).tw ?_⟩
  refine h.run σ H F ρ _ S (o.bind.imp fun xs _ o1 vs H1 s1 r1 => ?_)
  by_cases hz : xs.length ≤ sizeLine
  · have o1 : Out X T σ H (if xs.length ≤ sizeLine then .ok xs else .bad) _ := o1
    rw [if_pos hz] at o1
    refine ⟨by rw [r1.length]; exact hz, fun p hp => o1 p vs _ (s1.free hp) (s1.trans (same_upd hp)) upd_same (r1.new hp)⟩
  · have o1 : Out X T σ H (if xs.length ≤ sizeLine then .ok xs else .bad) _ := o1
    rw [if_neg hz] at o1
    exact False.elim o1
end
end Cr
/-! Core, part 3: operators, comparisons, items, slices, calls. -/
namespace Cr
open PySem PySem.Spec PyProof.Rows L2
/-! ### mirrors of the operators -/
def mulOk (a b : Int) : Prop := CMul a b ∨ CMulW a b
instance (a b : Int) : Decidable (mulOk a b) := by unfold mulOk CMul CMulW; infer_instance
def divOk (a b : Int) : Prop := CDivW a b
instance (a b : Int) : Decidable (divOk a b) := by unfold divOk CDivW; infer_instance
def powOk (a b : Int) : Prop := CPow a b
instance (a b : Int) : Decidable (powOk a b) := by unfold powOk CPow; infer_instance
def addD : D → D → Res D
  | .int a, .int b => .ok (.int (a + b))
  | .str a, .str b => if a.length + b.length ≤ sizeLine then .ok (.str (a ++ b)) else .bad
  | .lst a, .lst b => if a.length + b.length ≤ sizeLine then .ok (.lst (a ++ b)) else .bad
  | .tup a, .tup b => if a.length + b.length ≤ sizeLine then .ok (.tup (a ++ b)) else .bad
  | _, _ => .bad
def subD : D → D → Res D
  | .int a, .int b => .ok (.int (a - b))
  | _, _ => .bad
def mulD : D → D → Res D
  | .int a, .int b => if mulOk a b then .ok (.int (a * b)) else .bad
  | .lst a, .int k => if -(2 ^ 63) ≤ k ∧ k < 2 ^ 63 ∧ a.length * k.toNat ≤ sizeLine then .ok (.lst (List.replicate k.toNat a).flatten) else .bad
  | _, _ => .bad
def fdivD : D → D → Res D
  | .int a, .int b => if divOk a b then .ok (.int (a / b)) else .bad
  | _, _ => .bad
def modD : D → D → Res D
  | .int a, .int b => if 0 < b then .ok (.int (a % b)) else .bad
  | _, _ => .bad
def powD : D → D → Res D
  | .int a, .int b => if powOk a b then .ok (.int (a ^ b.toNat)) else .bad
  | _, _ => .bad
def shlD : D → D → Res D
  | .int a, .int b => if powOk a b then .ok (.int (a * 2 ^ b.toNat)) else .bad
  | _, _ => .bad
def shrD : D → D → Res D
  | .int a, .int b => if 0 ≤ b then .ok (.int (a / 2 ^ b.toNat)) else .bad
  | _, _ => .bad
def bandD : D → D → Res D
  | .int a, .int b => .ok (.int (Builtin.bitAnd a b))
  | _, _ => .bad
def ltD : D → D → Res D
  | .int a, .int b => .ok (.bl (decide (a < b)))
  | _, _ => .bad
def leD : D → D → Res D
  | .int a, .int b => .ok (.bl (decide (a ≤ b)))
  | _, _ => .bad
def gtD : D → D → Res D
  | .int a, .int b => .ok (.bl (decide (b < a)))
  | _, _ => .bad
def geD : D → D → Res D
  | .int a, .int b => .ok (.bl (decide (b ≤ a)))
  | _, _ => .bad
def isNonD : D → D → Res D
  | .non, .non => .ok (.bl true)
  | _, .non => .ok (.bl false)
  | _, _ => .bad
def notNonD : D → D → Res D
  | .non, .non => .ok (.bl false)
  | _, .non => .ok (.bl true)
  | _, _ => .bad
mutual
def toPy : D → Option PyData
  | .non => some .none
  | .bl b => some (.bool b)
  | .int i => some (.int i)
  | .str x => some (.str x)
  | .tup ds => match toPys ds with
    | some ps => some (.tuple ps)
    | none => none
  | .lst ds => match toPys ds with
    | some ps => some (.list ps)
    | none => none
  | .obj _ _ => none
  | .scr _ => none
def toPys : List D → Option (List PyData)
  | [] => some []
  | d :: ds => match toPy d, toPys ds with
    | some p, some ps => some (p :: ps)
    | _, _ => none
end
def eqB : D → D → Res Bool
  | .int a, .int b => .ok (decide (a = b))
  | .str a, .str b => .ok (decide (a = b))
  | .bl a, .bl b => .ok (decide (a = b))
  | .non, .non => .ok true
  | x, y => match toPy x, toPy y with
    | some p, some q => if SeqAt.shaped p && SeqAt.shaped q then .ok (PyData.eqv p q) else .bad
    | _, _ => .bad
def eqD : D → D → Res D := fun x y => eqB x y >>= fun k => .ok (.bl k)
def neD : D → D → Res D := fun x y => eqB x y >>= fun k => .ok (.bl (!k))
def flatD : D → Option V
  | .non => some .non
  | .bl b => some (.bl b)
  | .int i => some (.int i)
  | .str x => some (.str x)
  | _ => none
def flats : List D → Option (List V)
  | [] => some []
  | d :: ds => match flatD d, flats ds with
    | some v, some vs => some (v :: vs)
    | _, _ => none
def inB : D → D → Res Bool
  | x, .lst ys => match flatD x, flats ys with
    | some v, some vs => .ok (inV v vs)
    | _, _ => .bad
  | x, .tup ys => match flatD x, flats ys with
    | some v, some vs => .ok (inV v vs)
    | _, _ => .bad
  | .str i, .str j => .ok (!(Builtin.Str.occurrences j i 0 j.length 1).isEmpty)
  | _, _ => .bad
def inD : D → D → Res D := fun x y => inB x y >>= fun k => .ok (.bl k)
def ninD : D → D → Res D := fun x y => inB x y >>= fun k => .ok (.bl (!k))
/-! ### the rules -/
section
variable {T : CT} {X : Cx}
theorem op_int {f : Value → Value → Sem Value} {C : Int → Int → Prop} [∀ i j, Decidable (C i j)] {gi : Int → Int → D} {gv : Int → Int → V} {g : D → D → Res D} (h : OpR X f (rI C gv)) (hg : ∀ i j H Av, Rep (gx X T) H Av (gi i j) (gv i j))
    (h1 : ∀ i j, g (.int i) (.int j) = if C i j then .ok (gi i j) else .bad) (h2 : ∀ x y d, g x y = .ok d → ∃ i j, x = .int i ∧ y = .int j) (h3 : ∀ x y e, g x y ≠ .err e) : OpM T X f g := by
  refine ⟨_, h, fun σ H Av dx dy x y Q hav rx ry o => ?_⟩
  cases e : g dx dy with
  | ok d =>
    obtain ⟨i, j, rfl, rfl⟩ := h2 _ _ _ e
    rw [h1] at e
    by_cases hc : C i j
    · rw [h1, if_pos hc] at o
      exact ⟨i, j, rx, ry, hc, o _ _ (Same.refl H) (hg _ _ _ _)⟩
    · rw [if_neg hc] at e; cases e
  | err z => exact absurd e (h3 _ _ _)
  | bad => rw [e] at o; exact False.elim o
theorem op_int0 {f : Value → Value → Sem Value} {gi : Int → Int → D} {gv : Int → Int → V} {g : D → D → Res D} (h : OpR X f (rI0 gv)) (hg : ∀ i j H Av, Rep (gx X T) H Av (gi i j) (gv i j))
    (h1 : ∀ i j, g (.int i) (.int j) = .ok (gi i j)) (h2 : ∀ x y d, g x y = .ok d → ∃ i j, x = .int i ∧ y = .int j) (h3 : ∀ x y e, g x y ≠ .err e) : OpM T X f g := by
  refine ⟨_, h, fun σ H Av dx dy x y Q hav rx ry o => ?_⟩
  cases e : g dx dy with
  | ok d =>
    obtain ⟨i, j, rfl, rfl⟩ := h2 _ _ _ e
    rw [h1] at o
    exact ⟨i, j, rx, ry, o _ _ (Same.refl H) (hg _ _ _ _)⟩
  | err z => exact absurd e (h3 _ _ _)
  | bad => rw [e] at o; exact False.elim o
theorem om_sub : OpM T X (binaryOp .Sub) subD := op_int0 (gi := fun i j => .int (i - j)) op_sub (fun _ _ _ _ => rfl) (fun _ _ => rfl) (fun x y d h => by cases x <;> cases y <;> first | exact ⟨_, _, rfl, rfl⟩ | (exact nomatch h)) (fun x y e h => by cases x <;> cases y <;> exact nomatch h)
theorem om_band : OpM T X (binaryOp .BitAnd) bandD := op_int0 (gi := fun i j => .int (Builtin.bitAnd i j)) op_and (fun _ _ _ _ => rfl) (fun _ _ => rfl) (fun x y d h => by cases x <;> cases y <;> first | exact ⟨_, _, rfl, rfl⟩ | (exact nomatch h)) (fun x y e h => by cases x <;> cases y <;> exact nomatch h)
theorem om_lt : OpM T X (compareOp .Lt) ltD := op_int0 (gi := fun i j => .bl (decide (i < j))) op_lt (fun _ _ _ _ => rfl) (fun _ _ => rfl) (fun x y d h => by cases x <;> cases y <;> first | exact ⟨_, _, rfl, rfl⟩ | (exact nomatch h)) (fun x y e h => by cases x <;> cases y <;> exact nomatch h)
theorem om_le : OpM T X (compareOp .LtE) leD := op_int0 (gi := fun i j => .bl (decide (i ≤ j))) op_le (fun _ _ _ _ => rfl) (fun _ _ => rfl) (fun x y d h => by cases x <;> cases y <;> first | exact ⟨_, _, rfl, rfl⟩ | (exact nomatch h)) (fun x y e h => by cases x <;> cases y <;> exact nomatch h)
theorem om_gt : OpM T X (compareOp .Gt) gtD := op_int0 (gi := fun i j => .bl (decide (j < i))) op_gt (fun _ _ _ _ => rfl) (fun _ _ => rfl) (fun x y d h => by cases x <;> cases y <;> first | exact ⟨_, _, rfl, rfl⟩ | (exact nomatch h)) (fun x y e h => by cases x <;> cases y <;> exact nomatch h)
theorem om_ge : OpM T X (compareOp .GtE) geD := op_int0 (gi := fun i j => .bl (decide (j ≤ i))) op_ge (fun _ _ _ _ => rfl) (fun _ _ => rfl) (fun x y d h => by cases x <;> cases y <;> first | exact ⟨_, _, rfl, rfl⟩ | (exact nomatch h)) (fun x y e h => by cases x <;> cases y <;> exact nomatch h)
theorem om_fdiv : OpM T X (binaryOp .FloorDiv) fdivD := by
  refine op_int (C := divOk) (gi := fun i j => .int (i / j)) op_fdivW (fun _ _ _ _ => rfl) (fun _ _ => rfl) (fun x y d h => ?_) (fun x y e h => ?_)
  · cases x <;> cases y <;> first | exact ⟨_, _, rfl, rfl⟩ | (exact nomatch h)
  · cases x <;> cases y <;> first | (cases h; done) | (simp only [fdivD] at h; split at h <;> cases h)
theorem om_mod : OpM T X (binaryOp .Mod) modD := by
  refine op_int (C := fun _ j => 0 < j) (gi := fun i j => .int (i % j)) op_mod (fun _ _ _ _ => rfl) (fun _ _ => rfl) (fun x y d h => ?_) (fun x y e h => ?_)
  · cases x <;> cases y <;> first | exact ⟨_, _, rfl, rfl⟩ | (exact nomatch h)
  · cases x <;> cases y <;> first | (cases h; done) | (simp only [modD] at h; split at h <;> cases h)
theorem om_pow : OpM T X (binaryOp .Pow) powD := by
  refine op_int (C := powOk) (gi := fun i j => .int (i ^ j.toNat)) op_pow (fun _ _ _ _ => rfl) (fun _ _ => rfl) (fun x y d h => ?_) (fun x y e h => ?_)
  · cases x <;> cases y <;> first | exact ⟨_, _, rfl, rfl⟩ | (exact nomatch h)
  · cases x <;> cases y <;> first | (cases h; done) | (simp only [powD] at h; split at h <;> cases h)
theorem om_shl : OpM T X (binaryOp .LShift) shlD := by
  refine op_int (C := powOk) (gi := fun i j => .int (i * 2 ^ j.toNat)) op_shl (fun _ _ _ _ => rfl) (fun _ _ => rfl) (fun x y d h => ?_) (fun x y e h => ?_)
  · cases x <;> cases y <;> first | exact ⟨_, _, rfl, rfl⟩ | (exact nomatch h)
  · cases x <;> cases y <;> first | (cases h; done) | (simp only [shlD] at h; split at h <;> cases h)
theorem om_shr : OpM T X (binaryOp .RShift) shrD := by
  refine op_int (C := fun _ j => 0 ≤ j) (gi := fun i j => .int (i / 2 ^ j.toNat)) op_shr (fun _ _ _ _ => rfl) (fun _ _ => rfl) (fun x y d h => ?_) (fun x y e h => ?_)
  · cases x <;> cases y <;> first | exact ⟨_, _, rfl, rfl⟩ | (exact nomatch h)
  · cases x <;> cases y <;> first | (cases h; done) | (simp only [shrD] at h; split at h <;> cases h)
/-- a result where a condition holds -/
theorem Out.if {α : Type} {σ : L2.St} {H : Hp} {c : Prop} [Decidable c] {a : α} {P : α → Prop} (h : Out X T σ H (if c then .ok a else .bad) P) : c ∧ P a := by
  by_cases hc : c
  · rw [if_pos hc] at h; exact ⟨hc, h⟩
  · rw [if_neg hc] at h; exact False.elim h
theorem tup_sq {G : Gx} {H : Hp} {Av : Addr → Prop} {a : Addr} {vs : List V} (h : (H a = some (.tup vs) ∧ ¬ Av a) ∨ KTup G.K a vs) : SqT G.K H a vs := by
  rcases h with h | h
  · exact .inl (.inl h.1)
  · exact .inr h
theorem RepL.ne_nil {G : Gx} {H : Hp} {Av : Addr → Prop} {ds : List D} {vs : List V} (h : RepL G H Av ds vs) (n : ds ≠ []) : vs ≠ [] := fun e => by
  have := h.length
  rw [e] at this
  cases ds with
  | nil => exact n rfl
  | cons _ _ => simp at this
theorem om_add : OpM T X (binaryOp .Add) addD := by
  refine ⟨_, (op_add.or (op_add_str.or (op_cat.or op_catA))), fun σ H Av dx dy x y Q hav rx ry o => ?_⟩
  cases dx <;> cases dy <;> try exact False.elim o
  · exact .inl ⟨_, _, rx, ry, o _ _ (Same.refl H) rfl⟩
  · obtain ⟨hz, f⟩ := o.if
    exact .inr (.inl ⟨_, _, rx, ry, hz, f _ _ (Same.refl H) rfl⟩)
  · obtain ⟨hz, f⟩ := o.if
    obtain ⟨a, vs, rfl, ha, rv⟩ := rx
    obtain ⟨b, ws, rfl, hb, rw'⟩ := ry
    refine .inr (.inr (.inr ⟨a, b, vs, ws, rfl, rfl, tup_sq ha, tup_sq hb, by rw [rv.length, rw'.length]; exact hz, fun e => ?_, fun _ e => ?_, fun _ _ p hp => ?_⟩))
    · refine f _ _ (Same.refl H) ⟨b, ws, rfl, hb, ?_⟩
      have h0 := rv.length
      rw [e] at h0
      rw [List.length_eq_zero_iff.mp h0.symm]
      exact rw'
    · refine f _ _ (Same.refl H) ⟨a, vs, rfl, ha, ?_⟩
      have h0 := rw'.length
      rw [e] at h0
      rw [List.length_eq_zero_iff.mp h0.symm, List.append_nil]
      exact rv
    have s := same_upd (o := .tup (vs ++ ws)) hp
    exact f _ _ s ⟨p, _, rfl, .inl ⟨upd_same, fun z => absurd hp (hav p z)⟩, (rv.same s).append (rw'.same s)⟩
  · obtain ⟨hz, f⟩ := o.if
    obtain ⟨a, vs, rfl, ha, rv⟩ := rx
    obtain ⟨b, ws, rfl, hb, rw'⟩ := ry
    refine .inr (.inr (.inl ⟨a, b, vs, ws, rfl, rfl, ha, hb, by rw [rv.length, rw'.length]; exact hz, fun p hp => ?_⟩))
    have s := same_upd (o := .lst (vs ++ ws)) hp
    exact f _ _ s ⟨p, _, rfl, ⟨upd_same, fun z => absurd hp (hav p z)⟩, (rv.same s).append (rw'.same s)⟩
theorem om_mul : OpM T X (binaryOp .Mult) mulD := by
  refine ⟨_, ((op_mul.or op_mulW).or op_rep), fun σ H Av dx dy x y Q hav rx ry o => ?_⟩
  cases dx <;> cases dy <;> try exact False.elim o
  · obtain ⟨hz, f⟩ := o.if
    rcases hz with hz | hz
    · exact .inl (.inl ⟨_, _, rx, ry, hz, f _ _ (Same.refl H) rfl⟩)
    · exact .inl (.inr ⟨_, _, rx, ry, hz, f _ _ (Same.refl H) rfl⟩)
  · rename_i ls k
    obtain ⟨⟨h1, h2, h3⟩, f⟩ := o.if
    obtain ⟨a, vs, rfl, ha, rv⟩ := rx
    refine .inr ⟨a, _, vs, rfl, ry, ha, h1, h2, by rw [rv.length]; exact h3, fun p hp => ?_⟩
    have s := same_upd (o := .lst (List.replicate (Int.toNat k) vs).flatten) hp
    exact f _ _ s ⟨p, _, rfl, ⟨upd_same, fun z => absurd hp (hav p z)⟩, (rv.same s).rep _⟩
theorem om_is : OpM T X (compareOp .Is) isNonD := by
  refine ⟨_, op_isN, fun σ H Av dx dy x y Q hav rx ry o => ?_⟩
  cases dy with
  | non =>
    refine ⟨ry, ?_⟩
    cases dx with
    | non => have rx : x = V.non := rx; rw [rx]; exact o _ _ (Same.refl H) rfl
    | bl b => have rx : x = V.bl b := rx; rw [rx]; exact o _ _ (Same.refl H) rfl
    | int b => have rx : x = V.int b := rx; rw [rx]; exact o _ _ (Same.refl H) rfl
    | str b => have rx : x = V.str b := rx; rw [rx]; exact o _ _ (Same.refl H) rfl
    | tup ds => obtain ⟨a, _, e, _⟩ := rx; rw [e]; exact o _ _ (Same.refl H) rfl
    | lst ds => obtain ⟨a, _, e, _⟩ := rx; rw [e]; exact o _ _ (Same.refl H) rfl
    | obj c ds => obtain ⟨a, _, _, e, _⟩ := rx; rw [e]; exact o _ _ (Same.refl H) rfl
    | scr ds => obtain ⟨a, e, _⟩ := rx; rw [e]; exact o _ _ (Same.refl H) rfl
  | _ => cases dx <;> exact False.elim o
theorem om_isnot : OpM T X (compareOp .IsNot) notNonD := by
  refine ⟨_, op_notN, fun σ H Av dx dy x y Q hav rx ry o => ?_⟩
  cases dy with
  | non =>
    refine ⟨ry, ?_⟩
    cases dx with
    | non => have rx : x = V.non := rx; rw [rx]; exact o _ _ (Same.refl H) rfl
    | bl b => have rx : x = V.bl b := rx; rw [rx]; exact o _ _ (Same.refl H) rfl
    | int b => have rx : x = V.int b := rx; rw [rx]; exact o _ _ (Same.refl H) rfl
    | str b => have rx : x = V.str b := rx; rw [rx]; exact o _ _ (Same.refl H) rfl
    | tup ds => obtain ⟨a, _, e, _⟩ := rx; rw [e]; exact o _ _ (Same.refl H) rfl
    | lst ds => obtain ⟨a, _, e, _⟩ := rx; rw [e]; exact o _ _ (Same.refl H) rfl
    | obj c ds => obtain ⟨a, _, _, e, _⟩ := rx; rw [e]; exact o _ _ (Same.refl H) rfl
    | scr ds => obtain ⟨a, e, _⟩ := rx; rw [e]; exact o _ _ (Same.refl H) rfl
  | _ => cases dx <;> exact False.elim o
/-! ### == -/
mutual
theorem toPy_dp {G : Gx} {H : Hp} {Av : Addr → Prop} : ∀ (d : D) {v : V} {p : PyData}, RepB G H Av d v → toPy d = some p → Dp G.K H v p
  | .non, v, p, r, e => by cases e; have r : v = V.non := r; rw [r]; exact .non
  | .bl b, v, p, r, e => by cases e; have r : v = V.bl b := r; rw [r]; exact .bl b
  | .int b, v, p, r, e => by cases e; have r : v = V.int b := r; rw [r]; exact .int b
  | .str b, v, p, r, e => by cases e; have r : v = V.str b := r; rw [r]; exact .str b
  | .tup ds, v, p, r, e => by
    obtain ⟨a, vs, rfl, h1, h2⟩ := r
    rw [toPy] at e
    cases q : toPys ds with
    | none => rw [q] at e; cases e
    | some ps => rw [q] at e; cases e; exact .tup (tup_sq h1) (toPys_dp ds h2 q)
  | .lst ds, v, p, r, e => by
    obtain ⟨a, vs, rfl, h1, h2⟩ := r
    rw [toPy] at e
    cases q : toPys ds with
    | none => rw [q] at e; cases e
    | some ps => rw [q] at e; cases e; exact .lst (SqL.of h1) (toPys_dp ds h2 q)
  | .obj c ds, v, p, r, e => by rw [toPy] at e; cases e
  | .scr ds, v, p, r, e => by rw [toPy] at e; cases e
theorem toPys_dp {G : Gx} {H : Hp} {Av : Addr → Prop} : ∀ (ds : List D) {vs : List V} {ps : List PyData}, RepL G H Av ds vs → toPys ds = some ps → DpAll G.K H vs ps
  | [], vs, ps, r, e => by
    rw [toPys] at e; cases e
    have r : vs = [] := r
    rw [r]; exact .nil
  | d :: ds, vs, ps, r, e => by
    obtain ⟨v, vr, rfl, r1, r2⟩ := r
    rw [toPys] at e
    cases q : toPy d with
    | none => rw [q] at e; cases e
    | some p =>
      cases q2 : toPys ds with
      | none => rw [q, q2] at e; cases e
      | some ps' => rw [q, q2] at e; cases e; exact .cons (toPy_dp d r1.b q) (toPys_dp ds r2 q2)
end
theorem eq_core {σ : L2.St} {H : Hp} {Av : Addr → Prop} {dx dy : D} {x y : V} {P : Bool → Prop} (rx : RepB (gx X T) H Av dx x) (ry : RepB (gx X T) H Av dy y) (o : Out X T σ H (eqB dx dy) P) :
    (scal x y = true ∧ P (decide (x = y))) ∨ ∃ d e, Dp X.K H x d ∧ Dp X.K H y e ∧ SeqAt.shaped d = true ∧ SeqAt.shaped e = true ∧ P (PyData.eqv d e) := by
  have gen : ∀ {r : Res Bool}, r = (match toPy dx, toPy dy with
    | some p, some q => if SeqAt.shaped p && SeqAt.shaped q then .ok (PyData.eqv p q) else .bad
    | _, _ => .bad) → Out X T σ H r P → ∃ d e, Dp X.K H x d ∧ Dp X.K H y e ∧ SeqAt.shaped d = true ∧ SeqAt.shaped e = true ∧ P (PyData.eqv d e) := by
    intro r e o
    subst e
    cases q1 : toPy dx with
    | none => rw [q1] at o; exact False.elim o
    | some p =>
      cases q2 : toPy dy with
      | none => rw [q1, q2] at o; exact False.elim o
      | some q =>
        rw [q1, q2] at o
        have o : Out X T σ H (if (SeqAt.shaped p && SeqAt.shaped q) = true then .ok (PyData.eqv p q) else .bad) P := o
        obtain ⟨hc, f⟩ := o.if
        rw [Bool.and_eq_true] at hc
        exact ⟨p, q, toPy_dp (G := gx X T) dx rx q1, toPy_dp (G := gx X T) dy ry q2, hc.1, hc.2, f⟩
  cases dx <;> cases dy <;> first
    | exact .inr (gen rfl o)
    | (left
       have rx : x = _ := rx
       have ry : y = _ := ry
       rw [rx, ry]
       refine ⟨rfl, ?_⟩
       have o : P _ := o
       simpa using o)
theorem om_eq (hu : X.A.units + 64 < cLine) : OpM T X (compareOp .Eq) eqD := by
  refine ⟨_, (op_eq.or (op_eqD hu)), fun σ H Av dx dy x y Q hav rx ry o => ?_⟩
  rcases eq_core rx ry o.bind with ⟨h1, h2⟩ | ⟨d, e, h1, h2, h3, h4, h5⟩
  · exact .inl ⟨h1, h2 _ _ (Same.refl H) rfl⟩
  · exact .inr ⟨d, e, h1, h2, h3, h4, h5 _ _ (Same.refl H) rfl⟩
theorem om_ne (hu : X.A.units + 64 < cLine) : OpM T X (compareOp .NotEq) neD := by
  refine ⟨_, (op_ne.or (op_neD hu)), fun σ H Av dx dy x y Q hav rx ry o => ?_⟩
  rcases eq_core rx ry o.bind with ⟨h1, h2⟩ | ⟨d, e, h1, h2, h3, h4, h5⟩
  · exact .inl ⟨h1, h2 _ _ (Same.refl H) rfl⟩
  · exact .inr ⟨d, e, h1, h2, h3, h4, h5 _ _ (Same.refl H) rfl⟩
/-! ### in -/
theorem flatD_rep {G : Gx} {H : Hp} {Av : Addr → Prop} {d : D} {v w : V} (r : Rep G H Av d v) (e : flatD d = some w) : v = w ∧ flatV w = true := by
  cases d <;> first | (cases e; exact ⟨r, rfl⟩) | (exact nomatch e)
theorem flats_rep {G : Gx} {H : Hp} {Av : Addr → Prop} : ∀ {ds : List D} {vs ws : List V}, RepL G H Av ds vs → flats ds = some ws → vs = ws ∧ ws.all flatV = true
  | [], vs, ws, r, e => by cases e; exact ⟨r, rfl⟩
  | d :: ds, vs, ws, r, e => by
    obtain ⟨v, vr, rfl, r1, r2⟩ := r
    unfold flats at e
    cases q : flatD d with
    | none => rw [q] at e; cases e
    | some u =>
      cases q2 : flats ds with
      | none => rw [q, q2] at e; cases e
      | some us =>
        rw [q, q2] at e
        cases e
        obtain ⟨e1, f1⟩ := flatD_rep r1 q
        obtain ⟨e2, f2⟩ := flats_rep r2 q2
        rw [e1, e2]
        exact ⟨rfl, by rw [List.all_cons, f1, f2]; rfl⟩
theorem in_core {σ : L2.St} {H : Hp} {Av : Addr → Prop} {dx dy : D} {x y : V} {P : Bool → Prop} (rx : RepB (gx X T) H Av dx x) (ry : RepB (gx X T) H Av dy y) (o : Out X T σ H (inB dx dy) P) :
    (∃ p xs, y = .ref p ∧ (SqL X.K H p xs ∨ SqT X.K H p xs) ∧ flatV x = true ∧ xs.all flatV = true ∧ P (inV x xs)) ∨ ∃ i j, x = .str i ∧ y = .str j ∧ P (!(Builtin.Str.occurrences j i 0 j.length 1).isEmpty) := by
  have gen : ∀ {ys : List D} {vs : List V}, RepL (gx X T) H Av ys vs → Out X T σ H (match flatD dx, flats ys with
      | some v, some vs => .ok (inV v vs)
      | _, _ => .bad) P → flatV x = true ∧ vs.all flatV = true ∧ P (inV x vs) := by
    intro ys vs r o
    cases q : flatD dx with
    | none => rw [q] at o; exact False.elim o
    | some u =>
      cases q2 : flats ys with
      | none => rw [q, q2] at o; exact False.elim o
      | some us =>
        rw [q, q2] at o
        have rx' : Rep (gx X T) H Av dx x := by
          cases dx <;> first | exact rx | (exact nomatch q)
        obtain ⟨e1, f1⟩ := flatD_rep rx' q
        obtain ⟨e2, f2⟩ := flats_rep r q2
        rw [e1, e2]
        exact ⟨f1, f2, o⟩
  cases dy with
  | lst ys =>
    obtain ⟨a, vs, rfl, h1, h2⟩ := ry
    have o : Out X T σ H (match flatD dx, flats ys with
      | some v, some vs => .ok (inV v vs)
      | _, _ => .bad) P := by cases dx <;> exact o
    obtain ⟨f1, f2, f3⟩ := gen h2 o
    exact .inl ⟨a, vs, rfl, .inl (SqL.of h1), f1, f2, f3⟩
  | tup ys =>
    obtain ⟨a, vs, rfl, h1, h2⟩ := ry
    have o : Out X T σ H (match flatD dx, flats ys with
      | some v, some vs => .ok (inV v vs)
      | _, _ => .bad) P := by cases dx <;> exact o
    obtain ⟨f1, f2, f3⟩ := gen h2 o
    exact .inl ⟨a, vs, rfl, .inr (tup_sq h1), f1, f2, f3⟩
  | str j =>
    cases dx with
    | str i => exact .inr ⟨i, j, rx, ry, o⟩
    | _ => exact False.elim o
  | _ => cases dx <;> exact False.elim o
theorem om_in : OpM T X (compareOp .In) inD := by
  refine ⟨_, (op_in_seq.or op_in_str), fun σ H Av dx dy x y Q hav rx ry o => ?_⟩
  rcases in_core rx ry o.bind with ⟨p, xs, h1, h2, h3, h4, h5⟩ | ⟨i, j, h1, h2, h3⟩
  · exact .inl ⟨p, xs, h1, h2, h3, h4, h5 _ _ (Same.refl H) rfl⟩
  · exact .inr ⟨i, j, h1, h2, h3 _ _ (Same.refl H) rfl⟩
theorem om_notin : OpM T X (compareOp .NotIn) ninD := by
  refine ⟨_, (op_notIn_seq.or op_notIn_str), fun σ H Av dx dy x y Q hav rx ry o => ?_⟩
  rcases in_core rx ry o.bind with ⟨p, xs, h1, h2, h3, h4, h5⟩ | ⟨i, j, h1, h2, h3⟩
  · exact .inl ⟨p, xs, h1, h2, h3, h4, h5 _ _ (Same.refl H) rfl⟩
  · exact .inr ⟨i, j, h1, h2, h3 _ _ (Same.refl H) rfl⟩
end
end Cr
/-! Core, part 4: items, slices, built-ins, own defs, methods, instances. -/
namespace Cr
open PySem PySem.Spec PyProof.Rows L2
section
variable {T : CT} {Fb : Gh} {X : Cx} {e a b c : Expr} {es : List Expr} {m ma mb mc : Env → Res D} {pos : Pos}
/-! ### -x -/
def negD : D → Res D
  | .int i => .ok (.int (-i))
  | _ => .bad
def mUn (g : D → Res D) (ma : Env → Res D) : Env → Res D := fun ρ => ma ρ >>= g
theorem me_neg (ha : MB T Fb X a ma) : ME T Fb X (.UnaryOp .USub a pos) (mUn negD ma) := by
  refine ⟨fun σ H F ρ Q S o => (pe_un un_neg pe_tw).tw ?_⟩
  refine ha.run σ H F ρ _ S (o.bind.imp fun d _ o1 v H1 s r => ?_)
  cases d with
  | int i => exact ⟨i, r, o1 _ _ s rfl⟩
  | _ => exact False.elim o1
/-! ### items -/
def opt {α : Type} : Option α → Res α
  | some a => .ok a
  | none => .bad
def idxD : D → D → Res D
  | .lst xs, .int i => opt (atI xs i)
  | .tup xs, .int i => opt (atI xs i)
  | .scr ns, .int i => opt ((atI ns i).map .int)
  | .str z, .int i => if z.length ≤ sizeLine then opt ((atI z.cps.toList i).map fun c => .str ⟨#[c]⟩) else .bad
  | _, _ => .bad
theorem RepL.atI {G : Gx} {H : Hp} {Av : Addr → Prop} {ds : List D} {vs : List V} {i : Int} {d : D} (r : RepL G H Av ds vs) (h : L2.atI ds i = some d) : ∃ v, L2.atI vs i = some v ∧ Rep G H Av d v := by
  unfold L2.atI at h ⊢
  rw [r.length]
  cases q : ixN ds.length i with
  | none => rw [q] at h; cases h
  | some j =>
    rw [q] at h
    exact r.get (i := j) h
theorem atI_map {α β : Type} (f : α → β) (xs : List α) (i : Int) : L2.atI (xs.map f) i = (L2.atI xs i).map f := by
  unfold L2.atI
  rw [List.length_map]
  cases ixN xs.length i with
  | none => rfl
  | some j => show (xs.map f)[j]? = (xs[j]?).map f; rw [List.getElem?_map]
theorem scr_sq {G : Gx} {H : Hp} {Av : Addr → Prop} {a : Addr} {vs : List V} (h : (Rd H a (.lst vs) ∧ ¬ Av a) ∨ KLst G.K a vs) : SqL G.K H a vs := by
  rcases h with h | h
  · exact .inl h.1
  · exact .inr h
theorem Out.opt {α : Type} {σ : L2.St} {H : Hp} {x : Option α} {P : α → Prop} (h : Out X T σ H (Cr.opt x) P) : ∃ a, x = some a ∧ P a := by
  cases x with
  | none => exact False.elim h
  | some a => exact ⟨a, rfl, h⟩
theorem me_ix (ha : MB T Fb X a ma) (hb : MB T Fb X b mb) (hs : PlainIx b := by exact fun _ _ => rfl) : ME T Fb X (.Subscript a b pos) (mBin idxD ma mb) := by
  refine ⟨fun σ H F ρ Q S o => (pe_ix ix_seq pe_tw pe_tw hs).tw ?_⟩
  refine ha.run σ H F ρ _ S (o.bind.imp fun x _ o1 v H1 s1 r1 => ?_)
  refine hb.run σ H1 F ρ _ (S.same s1) ((o1.same s1).bind.imp fun y _ o2 u H2 s2 r2 => ?_)
  have r1 := r1.same s2
  have s12 := s1.trans s2
  cases y with
  | int i =>
    have r2 : u = V.int i := r2
    cases x with
    | lst xs =>
      obtain ⟨d, e, f⟩ := o2.opt
      obtain ⟨p, vs, rfl, h1, h2⟩ := r1
      obtain ⟨w, e2, r⟩ := h2.atI e
      exact .inl ⟨p, vs, i, w, rfl, r2, SqL.of h1, e2, f _ _ s12 r⟩
    | tup xs =>
      obtain ⟨d, e, f⟩ := o2.opt
      obtain ⟨p, vs, rfl, h1, h2⟩ := r1
      obtain ⟨w, e2, r⟩ := h2.atI e
      exact .inr (.inl ⟨p, vs, i, w, rfl, r2, tup_sq h1, e2, f _ _ s12 r⟩)
    | scr ns =>
      obtain ⟨d, e, f⟩ := o2.opt
      obtain ⟨p, rfl, h1⟩ := r1
      cases q : L2.atI ns i with
      | none => rw [q] at e; cases e
      | some n =>
        rw [q] at e; cases e
        exact .inl ⟨p, ns.map V.int, i, V.int n, rfl, r2, scr_sq h1, by rw [atI_map, q]; rfl, f _ _ s12 rfl⟩
    | str z =>
      obtain ⟨hz, o3⟩ : z.length ≤ sizeLine ∧ Out X T σ H1 (opt ((L2.atI z.cps.toList i).map fun c => D.str ⟨#[c]⟩)) _ := by
        have o2 : Out X T σ H1 (if z.length ≤ sizeLine then opt ((L2.atI z.cps.toList i).map fun c => D.str ⟨#[c]⟩) else .bad) _ := o2
        by_cases hz : z.length ≤ sizeLine
        · rw [if_pos hz] at o2; exact ⟨hz, o2⟩
        · rw [if_neg hz] at o2; exact False.elim o2
      obtain ⟨d, e, f⟩ := o3.opt
      cases q : L2.atI z.cps.toList i with
      | none => rw [q] at e; cases e
      | some n =>
        rw [q] at e; cases e
        have r1 : v = V.str z := r1
        exact .inr (.inr ⟨z, i, n, r1, r2, hz, q, f _ _ s12 rfl⟩)
    | _ => exact False.elim o2
  | _ => cases x <;> exact False.elim o2
/-! ### slices -/
structure MO (T : CT) (Fb : Gh) (X : Cx) (e : Option Expr) (m : Env → Res (Option Int)) : Prop where
  ex : ∃ t : TO, PO X e t ∧ ∀ (σ : L2.St) (H : Hp) (F : List Addr) (ρ : Env) (Q : Option Int → Hp → Prop), StR (gx X T) Fb H σ ρ F →
    Out X T σ H (m ρ) (fun o => ∀ H', Same H H' → Q o H') → t σ H Q
def mNo : Env → Res (Option Int) := fun _ => .ok none
def intO : D → Res (Option Int)
  | .int i => .ok (some i)
  | _ => .bad
def mPart (m : Env → Res D) : Env → Res (Option Int) := fun ρ => m ρ >>= intO
theorem mo_none : MO T Fb X none mNo := ⟨_, po_none, fun σ H F ρ Q S o => o H (Same.refl H)⟩
theorem mo_some (h : MB T Fb X e m) : MO T Fb X (some e) (mPart m) := by
  refine ⟨_, po_some pe_tw, fun σ H F ρ Q S o => ?_⟩
  refine h.run σ H F ρ _ S (o.bind.imp fun d _ o1 v H1 s r => ?_)
  cases d with
  | int i => exact ⟨i, r, o1 _ s⟩
  | _ => exact False.elim o1
def cutG {α : Type} (xs : List α) (lo hi : Option Int) : List α := (xs.drop (HT.sIx xs.length 0 lo)).take (HT.sIx xs.length xs.length hi - HT.sIx xs.length 0 lo)
theorem RepL.cut {G : Gx} {H : Hp} {Av : Addr → Prop} {ds : List D} {vs : List V} (r : RepL G H Av ds vs) (lo hi : Option Int) : RepL G H Av (cutG ds lo hi) (cutV vs lo hi) := by
  unfold cutG cutV
  rw [r.length]
  exact (r.drop _).take _
def cutL : D → Option Int → Option Int → Res (List D)
  | .lst xs, lo, hi => .ok (cutG xs lo hi)
  | _, _, _ => .bad
def cutD : D → Option Int → Option Int → Res D
  | .lst xs, lo, hi => .ok (.lst (cutG xs lo hi))
  | .tup xs, lo, hi => if ¬ (HT.sIx xs.length 0 lo = 0 ∧ HT.sIx xs.length xs.length hi = xs.length) then .ok (.tup (cutG xs lo hi)) else .bad
  | .str z, lo, hi => if z.length ≤ sizeLine then .ok (.str (cutS z lo hi)) else .bad
  | _, _, _ => .bad
def mSl {α : Type} (g : D → Option Int → Option Int → Res α) (ma : Env → Res D) (ml mh : Env → Res (Option Int)) : Env → Res α := fun ρ => ma ρ >>= fun x => ml ρ >>= fun l => mh ρ >>= fun h => g x l h
variable {lo hi : Option Expr} {ml mh : Env → Res (Option Int)} {p2 : Pos}
theorem mf_slice (ha : MB T Fb X a ma) (hl : MO T Fb X lo ml) (hh : MO T Fb X hi mh) : MF T Fb X (.Subscript a (.Slice lo hi none p2) pos) (mSl cutL ma ml mh) := by
  obtain ⟨tl, pl, fl⟩ := hl.ex
  obtain ⟨th, ph, fh⟩ := hh.ex
  refine ⟨fun σ H F ρ Q S o => (pe_slice sl_list pe_tw pl ph).tw ?_⟩
  refine ha.run σ H F ρ _ S (o.bind.imp fun x _ o1 v H1 s1 r1 => ?_)
  refine fl σ H1 F ρ _ (S.same s1) ((o1.same s1).bind.imp fun l _ o2 H2 s2 => ?_)
  refine fh σ H2 F ρ _ ((S.same s1).same s2) ((o2.same s2).bind.imp fun h _ o3 H3 s3 => ?_)
  cases x with
  | lst xs =>
    obtain ⟨p, vs, rfl, h1, h2⟩ := (r1.same s2).same s3
    refine ⟨p, vs, rfl, SqL.of h1, fun q hq => ?_⟩
    have s := same_upd (o := .lst (cutV vs l h)) hq
    exact o3 q _ _ ((s1.trans (s2.trans s3)).free hq) ((s1.trans (s2.trans s3)).trans s) upd_same ((h2.cut l h).new hq)
  | _ => exact False.elim o3
theorem me_slice (ha : MB T Fb X a ma) (hl : MO T Fb X lo ml) (hh : MO T Fb X hi mh) : ME T Fb X (.Subscript a (.Slice lo hi none p2) pos) (mSl cutD ma ml mh) := by
  obtain ⟨tl, pl, fl⟩ := hl.ex
  obtain ⟨th, ph, fh⟩ := hh.ex
  refine ⟨fun σ H F ρ Q S o => (pe_slice (sl_list.or (sl_tup.or sl_str)) pe_tw pl ph).tw ?_⟩
  refine ha.run σ H F ρ _ S (o.bind.imp fun x _ o1 v H1 s1 r1 => ?_)
  refine fl σ H1 F ρ _ (S.same s1) ((o1.same s1).bind.imp fun l _ o2 H2 s2 => ?_)
  refine fh σ H2 F ρ _ ((S.same s1).same s2) ((o2.same s2).bind.imp fun h _ o3 H3 s3 => ?_)
  have S3 := ((S.same s1).same s2).same s3
  have s := s1.trans (s2.trans s3)
  have r1 := (r1.same s2).same s3
  cases x with
  | lst xs =>
    obtain ⟨p, vs, rfl, h1, h2⟩ := r1
    refine .inl ⟨p, vs, rfl, SqL.of h1, fun q hq => ?_⟩
    have s' := same_upd (o := .lst (cutV vs l h)) hq
    exact o3 _ _ (s.trans s') ⟨q, _, rfl, ⟨upd_same, avo_no S3.av hq⟩, (h2.cut l h).same s'⟩
  | tup xs =>
    obtain ⟨hc, f⟩ := o3.if
    obtain ⟨p, vs, rfl, h1, h2⟩ := r1
    refine .inr (.inl ⟨p, vs, rfl, tup_sq h1, by rw [h2.length]; exact hc, fun q hq => ?_⟩)
    have s' := same_upd (o := .tup (cutV vs l h)) hq
    exact f _ _ (s.trans s') ⟨q, _, rfl, .inl ⟨upd_same, avo_no S3.av hq⟩, (h2.cut l h).same s'⟩
  | str z =>
    obtain ⟨hc, f⟩ := o3.if
    have r1 : v = V.str z := r1
    exact .inr (.inr ⟨z, r1, hc, f _ _ s rfl⟩)
  | _ => exact False.elim o3
def revL : D → Res (List D)
  | .lst xs => .ok xs.reverse
  | _ => .bad
def mUnF (g : D → Res (List D)) (ma : Env → Res D) : Env → Res (List D) := fun ρ => ma ρ >>= g
theorem mf_rev {k : Nat} {p1 p2 p3 : Pos} (ha : MB T Fb X a ma) : MF T Fb X (.Subscript a (.Slice none none (some (.UnaryOp .USub (.Constant (.int 1) k p1) p2)) p3) pos) (mUnF revL ma) := by
  refine ⟨fun σ H F ρ Q S o => (pe_revL pe_tw).tw ?_⟩
  refine ha.run σ H F ρ _ S (o.bind.imp fun x _ o1 v H1 s1 r1 => ?_)
  cases x with
  | lst xs =>
    obtain ⟨p, vs, rfl, h1, h2⟩ := r1
    refine ⟨p, vs, rfl, SqL.of h1, fun q hq => ?_⟩
    have s := same_upd (o := .lst vs.reverse) hq
    exact o1 q _ _ (s1.free hq) (s1.trans s) upd_same (h2.reverse.new hq)
  | _ => exact False.elim o1
/-! ### built-ins by values -/
structure CallM (T : CT) (X : Cx) (f : Value) (g : List D → Res D) : Prop where
  ex : ∃ r : List V → Hp → VK → Prop, CallR X f r ∧ ∀ (σ : L2.St) (H : Hp) (Av : Addr → Prop) (ds : List D) (vs : List V) (Q : VK), (∀ a, Av a → H a ≠ none) → Paired (RepB (gx X T) H Av) ds vs →
    Out X T σ H (g ds) (fun d => ∀ v H', Same H H' → Rep (gx X T) H' Av d v → Q v H') → r vs H Q
structure CallF (T : CT) (X : Cx) (f : Value) (g : List D → Res (List D)) : Prop where
  ex : ∃ r : List V → Hp → VK → Prop, CallR X f r ∧ ∀ (σ : L2.St) (H : Hp) (Av : Addr → Prop) (ds : List D) (vs : List V) (Q : VK), (∀ a, Av a → H a ≠ none) → Paired (RepB (gx X T) H Av) ds vs →
    Out X T σ H (g ds) (fun xs => ∀ p vs H', H p = none → Same H H' → H' p = some (.lst vs) → RepL (gx X T) H' (fun a => a = p ∨ Av a) xs vs → Q (.ref p) H') → r vs H Q
def mArg {α : Type} (g : List D → Res α) (m : Env → Res (List D)) : Env → Res α := fun ρ => m ρ >>= g
variable {x : Str} {p : Pos} {bid ty : String}
theorem me_bi {g : List D → Res D} {mr : Env → Res (List D)} (hf : CallM T X (.builtin bid) g) (hm : X.mg x = none) (hv : bootBuiltins x = some (.builtin bid)) (ha : MLb T Fb X (e :: es) mr) (hg : Gl X x := by rfl) (hn : x ≠ "__name__" := by decide) (hdb : (x == ("__debug__" : Str)) = false := by decide)
    (he : starEach (e :: es) X.env = (false, eval e X.env) :: starEach es X.env := by rfl) (hpl : (backTo pos (starEach es X.env)).any (·.1) = false := by rfl) : ME T Fb X (.Call (.Name x p) (e :: es) [] pos) (mArg g mr) := by
  obtain ⟨r, hr, f⟩ := hf.ex
  refine ⟨fun σ H F ρ Q S o => (pe_callB hr hg hm hv pa_tw hn hdb he hpl).tw ?_⟩
  refine ha.run σ H F ρ _ S (o.bind.imp fun ds _ o1 vs H1 s1 r1 => ?_)
  exact f σ H1 (avo Fb F) ds vs Q (S.same s1).av r1 ((o1.same s1).imp fun d _ f v H2 s2 r2 => f v H2 (s1.trans s2) r2)
theorem me_bty {g : List D → Res D} {mr : Env → Res (List D)} (hf : CallM T X (.type ty) g) (hm : X.mg x = none) (hv : bootBuiltins x = some (.type ty)) (ha : MLb T Fb X (e :: es) mr) (hg : Gl X x := by rfl) (hn : x ≠ "__name__" := by decide) (hdb : (x == ("__debug__" : Str)) = false := by decide)
    (he : starEach (e :: es) X.env = (false, eval e X.env) :: starEach es X.env := by rfl) (hpl : (backTo pos (starEach es X.env)).any (·.1) = false := by rfl) : ME T Fb X (.Call (.Name x p) (e :: es) [] pos) (mArg g mr) := by
  obtain ⟨r, hr, f⟩ := hf.ex
  refine ⟨fun σ H F ρ Q S o => (pe_callTy hr hg hm hv pa_tw hn hdb he hpl).tw ?_⟩
  refine ha.run σ H F ρ _ S (o.bind.imp fun ds _ o1 vs H1 s1 r1 => ?_)
  exact f σ H1 (avo Fb F) ds vs Q (S.same s1).av r1 ((o1.same s1).imp fun d _ f v H2 s2 r2 => f v H2 (s1.trans s2) r2)
theorem mf_bty {g : List D → Res (List D)} {mr : Env → Res (List D)} (hf : CallF T X (.type ty) g) (hm : X.mg x = none) (hv : bootBuiltins x = some (.type ty)) (ha : MLb T Fb X (e :: es) mr) (hg : Gl X x := by rfl) (hn : x ≠ "__name__" := by decide) (hdb : (x == ("__debug__" : Str)) = false := by decide)
    (he : starEach (e :: es) X.env = (false, eval e X.env) :: starEach es X.env := by rfl) (hpl : (backTo pos (starEach es X.env)).any (·.1) = false := by rfl) : MF T Fb X (.Call (.Name x p) (e :: es) [] pos) (mArg g mr) := by
  obtain ⟨r, hr, f⟩ := hf.ex
  refine ⟨fun σ H F ρ Q S o => (pe_callTy hr hg hm hv pa_tw hn hdb he hpl).tw ?_⟩
  refine ha.run σ H F ρ _ S (o.bind.imp fun ds _ o1 vs H1 s1 r1 => ?_)
  exact f σ H1 (avo Fb F) ds vs Q (S.same s1).av r1 ((o1.same s1).imp fun d _ f p vs H2 n s2 r2 => f p vs H2 (s1.free n) (s1.trans s2) r2)
theorem paired1 {α β : Type} {R : α → β → Prop} {x : α} {vs : List β} (h : Paired R [x] vs) : ∃ v, vs = [v] ∧ R x v := by
  cases h with
  | cons r t => cases t; exact ⟨_, rfl, r⟩
theorem paired2 {α β : Type} {R : α → β → Prop} {x y : α} {vs : List β} (h : Paired R [x, y] vs) : ∃ v w, vs = [v, w] ∧ R x v ∧ R y w := by
  cases h with
  | cons r t =>
    obtain ⟨w, rfl, r2⟩ := paired1 t
    exact ⟨_, w, rfl, r, r2⟩
def lenD : List D → Res D
  | [.lst xs] => .ok (.int xs.length)
  | [.tup xs] => .ok (.int xs.length)
  | [.scr xs] => .ok (.int xs.length)
  | [.str z] => if z.length ≤ sizeLine then .ok (.int z.length) else .bad
  | _ => .bad
theorem cm_len : CallM T X (.builtin "len") lenD := by
  refine ⟨_, call_len_seq.or call_len_str, fun σ H Av ds vs Q hav r o => ?_⟩
  match ds, o with
  | [.lst xs], o =>
    obtain ⟨v, rfl, a, ws, rfl, h1, h2⟩ := paired1 r
    exact .inl ⟨a, ws, rfl, .inl (SqL.of h1), by rw [h2.length]; exact o _ _ (Same.refl H) rfl⟩
  | [.tup xs], o =>
    obtain ⟨v, rfl, a, ws, rfl, h1, h2⟩ := paired1 r
    exact .inl ⟨a, ws, rfl, .inr (tup_sq h1), by rw [h2.length]; exact o _ _ (Same.refl H) rfl⟩
  | [.scr xs], o =>
    obtain ⟨v, rfl, a, rfl, h1⟩ := paired1 r
    exact .inl ⟨a, _, rfl, .inl (scr_sq h1), by rw [List.length_map]; exact o _ _ (Same.refl H) rfl⟩
  | [.str z], o =>
    obtain ⟨hz, f⟩ := o.if
    obtain ⟨v, rfl, h1⟩ := paired1 r
    have h1 : v = V.str z := h1
    exact .inr ⟨z, by rw [h1], hz, f _ _ (Same.refl H) rfl⟩
def absD : List D → Res D
  | [.int i] => .ok (.int (if i < 0 then -i else i))
  | _ => .bad
theorem cm_abs : CallM T X (.builtin "abs") absD := by
  refine ⟨_, call_abs, fun σ H Av ds vs Q hav r o => ?_⟩
  match ds, o with
  | [.int i], o =>
    obtain ⟨v, rfl, h1⟩ := paired1 r
    have h1 : v = V.int i := h1
    exact ⟨i, by rw [h1], o _ _ (Same.refl H) rfl⟩
def max2D : List D → Res D
  | [.int i, .int j] => .ok (.int (max i j))
  | _ => .bad
def min2D : List D → Res D
  | [.int i, .int j] => .ok (.int (min i j))
  | _ => .bad
theorem cm_max2 (hc : X.calm = true) : CallM T X (.builtin "max") max2D := by
  refine ⟨_, call_max2 hc, fun σ H Av ds vs Q hav r o => ?_⟩
  match ds, o with
  | [.int i, .int j], o =>
    obtain ⟨v, w, rfl, h1, h2⟩ := paired2 r
    have h1 : v = V.int i := h1
    have h2 : w = V.int j := h2
    refine ⟨i, j, by rw [h1, h2], ?_⟩
    have e : (if j > i then j else i) = max i j := by split <;> omega
    rw [e]
    exact o _ _ (Same.refl H) rfl
theorem cm_min2 (hc : X.calm = true) : CallM T X (.builtin "min") min2D := by
  refine ⟨_, call_min2 hc, fun σ H Av ds vs Q hav r o => ?_⟩
  match ds, o with
  | [.int i, .int j], o =>
    obtain ⟨v, w, rfl, h1, h2⟩ := paired2 r
    have h1 : v = V.int i := h1
    have h2 : w = V.int j := h2
    refine ⟨i, j, by rw [h1, h2], ?_⟩
    have e : (if j < i then j else i) = min i j := by split <;> omega
    rw [e]
    exact o _ _ (Same.refl H) rfl
def intD : List D → Res D
  | [.int i] => .ok (.int i)
  | [.bl k] => .ok (.int (if k then 1 else 0))
  | _ => .bad
theorem cm_int : CallM T X (.type "int") intD := by
  refine ⟨_, call_int1, fun σ H Av ds vs Q hav r o => ?_⟩
  match ds, o with
  | [.int i], o =>
    obtain ⟨v, rfl, h1⟩ := paired1 r
    have h1 : v = V.int i := h1
    exact .inl ⟨i, by rw [h1], o _ _ (Same.refl H) rfl⟩
  | [.bl i], o =>
    obtain ⟨v, rfl, h1⟩ := paired1 r
    have h1 : v = V.bl i := h1
    exact .inr ⟨i, by rw [h1], o _ _ (Same.refl H) rfl⟩
def tupD : List D → Res D
  | [.lst xs] => .ok (.tup xs)
  | [.tup xs] => .ok (.tup xs)
  | _ => .bad
theorem cm_tup : CallM T X (.type "tuple") tupD := by
  refine ⟨_, call_tuple_of, fun σ H Av ds vs Q hav r o => ?_⟩
  match ds, o with
  | [.lst xs], o =>
    obtain ⟨v, rfl, a, ws, rfl, h1, h2⟩ := paired1 r
    refine ⟨a, ws, rfl, .inl ⟨SqL.of h1, fun l hl => ?_⟩⟩
    have s := same_upd (o := .tup ws) hl
    exact o _ _ s ⟨l, ws, rfl, .inl ⟨upd_same, fun z => absurd hl (hav l z)⟩, h2.same s⟩
  | [.tup xs], o =>
    obtain ⟨v, rfl, a, ws, rfl, h1, h2⟩ := paired1 r
    exact ⟨a, ws, rfl, .inr ⟨tup_sq h1, o _ _ (Same.refl H) ⟨a, ws, rfl, h1, h2⟩⟩⟩
def listD : List D → Res (List D)
  | [.lst xs] => .ok xs
  | [.tup xs] => .ok xs
  | _ => .bad
theorem cf_list : CallF T X (.type "list") listD := by
  refine ⟨_, call_list_of, fun σ H Av ds vs Q hav r o => ?_⟩
  match ds, o with
  | [.lst xs], o =>
    obtain ⟨v, rfl, a, ws, rfl, h1, h2⟩ := paired1 r
    refine ⟨a, ws, rfl, .inl (SqL.of h1), fun l hl => ?_⟩
    have s := same_upd (o := .lst ws) hl
    exact o l ws _ hl s upd_same (h2.new hl)
  | [.tup xs], o =>
    obtain ⟨v, rfl, a, ws, rfl, h1, h2⟩ := paired1 r
    refine ⟨a, ws, rfl, .inr (tup_sq h1), fun l hl => ?_⟩
    have s := same_upd (o := .lst ws) hl
    exact o l ws _ hl s upd_same (h2.new hl)
/-- lists of whole numbers, of truths -/
def intsOf : List D → Option (List Int)
  | [] => some []
  | .int i :: ds => (intsOf ds).map (i :: ·)
  | _ => none
def boolsOf : List D → Option (List Bool)
  | [] => some []
  | .bl i :: ds => (boolsOf ds).map (i :: ·)
  | _ => none
theorem ints_rep {G : Gx} {H : Hp} {Av : Addr → Prop} : ∀ {ds : List D} {vs : List V} {ns : List Int}, RepL G H Av ds vs → intsOf ds = some ns → vs = ns.map V.int := by
  intro ds
  induction ds with
  | nil => intro vs ns r e; cases e; exact r
  | cons d ds ih =>
    intro vs ns r e
    obtain ⟨v, vr, rfl, r1, r2⟩ := r
    cases d with
    | int i =>
      have e : (intsOf ds).map (i :: ·) = some ns := e
      cases q : intsOf ds with
      | none => rw [q] at e; cases e
      | some ms =>
        rw [q] at e; cases e
        have r1 : v = V.int i := r1
        rw [r1, ih r2 q]; rfl
    | _ => exact nomatch (show (none : Option (List Int)) = some ns from e)
theorem bools_rep {G : Gx} {H : Hp} {Av : Addr → Prop} : ∀ {ds : List D} {vs : List V} {ns : List Bool}, RepL G H Av ds vs → boolsOf ds = some ns → vs = ns.map V.bl := by
  intro ds
  induction ds with
  | nil => intro vs ns r e; cases e; exact r
  | cons d ds ih =>
    intro vs ns r e
    obtain ⟨v, vr, rfl, r1, r2⟩ := r
    cases d with
    | bl i =>
      have e : (boolsOf ds).map (i :: ·) = some ns := e
      cases q : boolsOf ds with
      | none => rw [q] at e; cases e
      | some ms =>
        rw [q] at e; cases e
        have r1 : v = V.bl i := r1
        rw [r1, ih r2 q]; rfl
    | _ => exact nomatch (show (none : Option (List Bool)) = some ns from e)
def sumD : List D → Res D
  | [.lst xs] => opt (intsOf xs) >>= fun ns => .ok (.int ns.sum)
  | _ => .bad
theorem cm_sum (hc : X.calm = true) : CallM T X (.builtin "sum") sumD := by
  refine ⟨_, cr_sum hc, fun σ H Av ds vs Q hav r o => ?_⟩
  match ds, o with
  | [.lst xs], o =>
    obtain ⟨ns, e, f⟩ := o.bind.opt
    obtain ⟨v, rfl, a, ws, rfl, h1, h2⟩ := paired1 r
    rw [ints_rep h2 e] at h1
    exact ⟨a, ns, rfl, SqL.of h1, f _ _ (Same.refl H) rfl⟩
def allD : List D → Res D
  | [.lst xs] => opt (boolsOf xs) >>= fun ns => .ok (.bl (ns.all id))
  | _ => .bad
theorem cm_all (hc : X.calm = true) : CallM T X (.builtin "all") allD := by
  refine ⟨_, cr_all hc, fun σ H Av ds vs Q hav r o => ?_⟩
  match ds, o with
  | [.lst xs], o =>
    obtain ⟨ns, e, f⟩ := o.bind.opt
    obtain ⟨v, rfl, a, ws, rfl, h1, h2⟩ := paired1 r
    rw [bools_rep h2 e] at h1
    exact ⟨a, ns, rfl, SqL.of h1, f _ _ (Same.refl H) rfl⟩
def anyD : List D → Res D
  | [.lst xs] => opt (boolsOf xs) >>= fun ns => .ok (.bl (ns.any id))
  | _ => .bad
theorem cm_any (hc : X.calm = true) : CallM T X (.builtin "any") anyD := by
  refine ⟨_, cr_any hc, fun σ H Av ds vs Q hav r o => ?_⟩
  match ds, o with
  | [.lst xs], o =>
    obtain ⟨ns, e, f⟩ := o.bind.opt
    obtain ⟨v, rfl, a, ws, rfl, h1, h2⟩ := paired1 r
    rw [bools_rep h2 e] at h1
    exact ⟨a, ns, rfl, SqL.of h1, f _ _ (Same.refl H) rfl⟩
def listMax : List Int → Int
  | [] => 0
  | [a] => a
  | a :: as => max a (listMax as)
def listMin : List Int → Int
  | [] => 0
  | [a] => a
  | a :: as => min a (listMin as)
theorem listMax_eq : ∀ {ns : List Int} {m : Int}, m ∈ ns → (∀ y ∈ ns, y ≤ m) → m = listMax ns
  | [a], m, h, _ => by rw [List.mem_singleton.mp h]; rfl
  | a :: b :: r, m, h, f => by
    rw [listMax]
    · rcases List.mem_cons.mp h with e | h
      · have q : ∀ {l : List Int}, l ≠ [] → listMax l ∈ l := by
          intro l
          induction l with
          | nil => intro z; exact absurd rfl z
          | cons x xs ih =>
            intro _
            cases xs with
            | nil => exact List.mem_singleton.mpr rfl
            | cons y ys =>
              have ih := ih (by simp)
              have : listMax (x :: y :: ys) = max x (listMax (y :: ys)) := rfl
              rw [this]
              by_cases hx : x ≤ listMax (y :: ys)
              · rw [Int.max_eq_right hx]; exact List.mem_cons_of_mem _ ih
              · rw [Int.max_eq_left (by omega)]; exact List.mem_cons_self
        have := f _ (List.mem_cons_of_mem a (q (l := b :: r) (by simp)))
        omega
      · have e := listMax_eq h (fun y hy => f y (List.mem_cons_of_mem _ hy))
        have := f a List.mem_cons_self
        omega
    · simp
theorem listMin_eq : ∀ {ns : List Int} {m : Int}, m ∈ ns → (∀ y ∈ ns, m ≤ y) → m = listMin ns
  | [a], m, h, _ => by rw [List.mem_singleton.mp h]; rfl
  | a :: b :: r, m, h, f => by
    rw [listMin]
    · rcases List.mem_cons.mp h with e | h
      · have q : ∀ {l : List Int}, l ≠ [] → listMin l ∈ l := by
          intro l
          induction l with
          | nil => intro z; exact absurd rfl z
          | cons x xs ih =>
            intro _
            cases xs with
            | nil => exact List.mem_singleton.mpr rfl
            | cons y ys =>
              have ih := ih (by simp)
              have : listMin (x :: y :: ys) = min x (listMin (y :: ys)) := rfl
              rw [this]
              by_cases hx : x ≤ listMin (y :: ys)
              · rw [Int.min_eq_left hx]; exact List.mem_cons_self
              · rw [Int.min_eq_right (by omega)]; exact List.mem_cons_of_mem _ ih
        have := f _ (List.mem_cons_of_mem a (q (l := b :: r) (by simp)))
        omega
      · have e := listMin_eq h (fun y hy => f y (List.mem_cons_of_mem _ hy))
        have := f a List.mem_cons_self
        omega
    · simp
def maxD : List D → Res D
  | [.lst xs] => opt (intsOf xs) >>= fun ns => if 0 < ns.length then .ok (.int (listMax ns)) else .bad
  | _ => .bad
def minD : List D → Res D
  | [.lst xs] => opt (intsOf xs) >>= fun ns => if 0 < ns.length then .ok (.int (listMin ns)) else .bad
  | _ => .bad
theorem cm_max (hc : X.calm = true) : CallM T X (.builtin "max") maxD := by
  refine ⟨_, cr_max hc, fun σ H Av ds vs Q hav r o => ?_⟩
  match ds, o with
  | [.lst xs], o =>
    obtain ⟨ns, e, f⟩ := o.bind.opt
    obtain ⟨hn, f⟩ := Out.if f
    obtain ⟨v, rfl, a, ws, rfl, h1, h2⟩ := paired1 r
    rw [ints_rep h2 e] at h1
    exact ⟨a, ns, rfl, SqL.of h1, hn, fun m hm hy => by rw [listMax_eq hm hy]; exact f _ _ (Same.refl H) rfl⟩
theorem cm_min (hc : X.calm = true) : CallM T X (.builtin "min") minD := by
  refine ⟨_, cr_min hc, fun σ H Av ds vs Q hav r o => ?_⟩
  match ds, o with
  | [.lst xs], o =>
    obtain ⟨ns, e, f⟩ := o.bind.opt
    obtain ⟨hn, f⟩ := Out.if f
    obtain ⟨v, rfl, a, ws, rfl, h1, h2⟩ := paired1 r
    rw [ints_rep h2 e] at h1
    exact ⟨a, ns, rfl, SqL.of h1, hn, fun m hm hy => by rw [listMin_eq hm hy]; exact f _ _ (Same.refl H) rfl⟩
end
end Cr
/-! Core, part 4b: isinstance. -/
namespace Cr
open PySem PySem.Spec PyProof.Rows L2
section
variable {T : CT} {Fb : Gh} {X : Cx} {e a b c : Expr} {es : List Expr} {m ma mb mc : Env → Res D} {pos : Pos} {p : Pos}
/-! ### isinstance -/
inductive Ty where
  | bool | int | str | list | tuple
def Ty.nm : Ty → String
  | .bool => "bool"
  | .int => "int"
  | .str => "str"
  | .list => "list"
  | .tuple => "tuple"
def isiD : Ty → D → Res D
  | _, .obj _ _ => .bad
  | .bool, .bl _ => .ok (.bl true)
  | .int, .bl _ => .ok (.bl true)
  | .int, .int _ => .ok (.bl true)
  | .str, .str _ => .ok (.bl true)
  | .list, .lst _ => .ok (.bl true)
  | .list, .scr _ => .bad
  | _, .scr _ => .bad
  | .tuple, .tup _ => .ok (.bl true)
  | _, _ => .ok (.bl false)
theorem tyx_of {G : Gx} {H : Hp} {Av : Addr → Prop} {d : D} {v : V} (t : Ty) {k : D} (r : RepB G H Av d v) (h : isiD t d = .ok k) : ∃ n b, TyX G.K H v (.type n) ∧ kitB n t.nm = some b ∧ k = .bl b := by
  cases d with
  | non => have r : v = V.non := r; rw [r]; cases t <;> cases h <;> exact ⟨"NoneType", _, .base .non, by decide +kernel, rfl⟩
  | bl x => have r : v = V.bl x := r; rw [r]; cases t <;> cases h <;> exact ⟨"bool", _, .base (.bl x), by decide +kernel, rfl⟩
  | int x => have r : v = V.int x := r; rw [r]; cases t <;> cases h <;> exact ⟨"int", _, .base (.int x), by decide +kernel, rfl⟩
  | str x => have r : v = V.str x := r; rw [r]; cases t <;> cases h <;> exact ⟨"str", _, .base (.str x), by decide +kernel, rfl⟩
  | lst xs => obtain ⟨a, vs, rfl, h1, _⟩ := r; cases t <;> cases h <;> exact ⟨"list", _, .base (.lst h1), by decide +kernel, rfl⟩
  | tup xs =>
    obtain ⟨a, vs, rfl, h1, _⟩ := r
    have ty : TyX G.K H (.ref a) (.type "tuple") := by
      rcases h1 with h1 | ⟨o, its, n, hk, hc, _⟩
      · exact .base (.tup h1.1)
      · exact .kTuple hk hc
    cases t <;> cases h <;> exact ⟨"tuple", _, ty, by decide +kernel, rfl⟩
  | obj c xs => cases t <;> cases h
  | scr xs => cases t <;> cases h
theorem me_isi (t : Ty) {pn : Pos} (hm : X.mg "isinstance" = none) (ht : X.mg (Str.ofString t.nm) = none) (hv : bootBuiltins (Str.ofString t.nm) = some (.type t.nm)) (ha : MB T Fb X a ma) (hg : Gl X "isinstance" := by rfl) (hgt : Gl X (Str.ofString t.nm) := by rfl)
    (hn : (Str.ofString t.nm) ≠ "__name__" := by decide) (hdb : ((Str.ofString t.nm) == ("__debug__" : Str)) = false := by decide) (hs : starEach [a, .Name (Str.ofString t.nm) pn] X.env = (false, eval a X.env) :: starEach [.Name (Str.ofString t.nm) pn] X.env := by rfl)
    (hs2 : starEach [.Name (Str.ofString t.nm) pn] X.env = (false, eval (.Name (Str.ofString t.nm) pn) X.env) :: starEach [] X.env := by rfl) (hpl : (backTo pos (starEach [.Name (Str.ofString t.nm) pn] X.env)).any (·.1) = false := by rfl) :
    ME T Fb X (.Call (.Name "isinstance" p) [a, .Name (Str.ofString t.nm) pn] [] pos) (mUn (isiD t) ma) := by
  have pt : PE X (.Name (Str.ofString t.nm) pn) (tC (.ty t.nm)) := pe_bltn (v := V.ty t.nm) hgt ht hv rfl hn hdb
  refine ⟨fun σ H F ρ Q S o => (pe_callB call_isi hg hm (by decide +kernel) (pa_cons pe_tw (pa_cons pt pa_nil hs2) hs) (he := hs) (hpl := hpl)).tw ?_⟩
  refine ha.run σ H F ρ _ S (o.bind.imp fun d _ o1 v H1 s r => ?_)
  cases q : isiD t d with
  | bad => rw [q] at o1; exact False.elim o1
  | err z => cases d <;> cases t <;> cases q
  | ok k =>
    rw [q] at o1
    obtain ⟨n, b, h1, h2, rfl⟩ := tyx_of t r q
    exact ⟨v, V.ty t.nm, _, _, b, rfl, .ty _, h1, kit_ty h2, o1 _ _ s rfl⟩
end
end Cr
/-! Core, part 5: calls of own defs, methods, instances, fields. -/
namespace Cr
open PySem PySem.Spec PyProof.Rows L2
/-! ### the promise of a def by its mirror -/
def spD (K : PySem.W.Frag) (T : CT) (n : Nat) (m : List D → Res D) : Sp := fun vs H Q E => vs.length = n ∧ (∀ a, T.tab a → GxR.TabG H a) ∧ ∃ (Av : Addr → Prop) (ds : List D), (∀ a, Av a → H a ≠ none) ∧ RepL ⟨K, T⟩ H Av ds vs ∧ match m ds with
  | .ok d => ∀ v H', Same H H' → Rep ⟨K, T⟩ H' Av d v → Q v H'
  | .err x => ∀ cls d H', Same H H' → ExcRep ⟨K, T⟩ H' x cls d → E cls d H'
  | .bad => False
/-- .. of an __init__ of the class c: the fields -/
def spI (K : PySem.W.Frag) (T : CT) (c n : Nat) (m : List D → Res (List D)) : Sp := fun vs H Q E => vs.length = n + 1 ∧ (∀ a, T.tab a → GxR.TabG H a) ∧ ∃ (Av : Addr → Prop) (ds : List D) (x dx : Addr) (vr : List V), vs = .ref x :: vr ∧ (∀ a, Av a → H a ≠ none) ∧ ¬ Av x ∧
  H x = some (.ins (T.addr c) dx []) ∧ RepL ⟨K, T⟩ H (fun a => a = x ∨ Av a) ds vr ∧ match m ds with
  | .ok fs => ∀ H', (∀ a o, H a = some o → a ≠ x → Lke o (H' a)) → Rep ⟨K, T⟩ H' Av (.obj c fs) (.ref x) → Q .non H'
  | .err z => ∀ cls d H', (∀ a o, H a = some o → a ≠ x → Lke o (H' a)) → ExcRep ⟨K, T⟩ H' z cls d → E cls d H'
  | .bad => False
section
variable (P : Program) (w : World) (K : PySem.W.Frag) (mg : Str → Option Value) (base : Heap) (T : CT)
/-- a def of the module by its name -/
structure FnAt (k : Nat) (x : Str) (n : Nat) (m : List D → Res D) : Prop where
  ex : ∃ (f : Addr) (fd : FuncData) (ps : List Str), FnOk P w K mg base (L2.CX P w) k f fd ps (spD K T n m) ∧ mg x = some (.ref f) ∧ PySem.W.keepIn K (.ref f) = true ∧ Binds K fd ps []
/-- a method of the class c -/
structure MthAt (k : Nat) (c : Nat) (x : Str) (n : Nat) (m : List D → Res D) : Prop where
  ex : ∃ (f : Addr) (fd : FuncData) (ps : List Str), FnOk P w K mg base (L2.CX P w) k f fd ps (spD K T (n + 1) m) ∧ Meth K (T.addr c) x f ∧ Binds K fd ps []
/-- a class that is made by its __init__ -/
structure MkAt (k : Nat) (c : Nat) (x : Str) (n : Nat) (m : List D → Res (List D)) : Prop where
  ex : ∃ (f : Addr) (fd : FuncData) (ps : List Str), FnOk P w K mg base (L2.CX P w) k f fd ps (spI K T c n m) ∧ mg x = some (.ref (T.addr c)) ∧ Mk K (T.addr c) f ∧ Binds K fd ps []
end
section
variable {P : Program} {w : World} {K : PySem.W.Frag} {mg : Str → Option Value} {base : Heap} {T : CT}
theorem FnAt.mono {j k : Nat} {x : Str} {n : Nat} {m : List D → Res D} (F : FnAt P w K mg base T j x n m) (h : j ≤ k) : FnAt P w K mg base T k x n m := by
  obtain ⟨f, fd, ps, F, r⟩ := F.ex
  exact ⟨f, fd, ps, F.mono h, r⟩
theorem MthAt.mono {j k c : Nat} {x : Str} {n : Nat} {m : List D → Res D} (F : MthAt P w K mg base T j c x n m) (h : j ≤ k) : MthAt P w K mg base T k c x n m := by
  obtain ⟨f, fd, ps, F, r⟩ := F.ex
  exact ⟨f, fd, ps, F.mono h, r⟩
theorem MkAt.mono {j k c : Nat} {x : Str} {n : Nat} {m : List D → Res (List D)} (F : MkAt P w K mg base T j c x n m) (h : j ≤ k) : MkAt P w K mg base T k c x n m := by
  obtain ⟨f, fd, ps, F, r⟩ := F.ex
  exact ⟨f, fd, ps, F.mono h, r⟩
end
section
variable {T : CT} {Fb : Gh} {X : Cx} {e a b c o : Expr} {es : List Expr} {m ma mb mc mo : Env → Res D} {pos p apos : Pos} {x : Str} {k n : Nat}
/-- what a call asks, whatever it ends in -/
theorem spD_of {σ : L2.St} {H : Hp} {F : List Addr} {ds : List D} {vs : List V} {Q : VK} {mf : List D → Res D} (hl : vs.length = n) (hav : ∀ a, avo Fb F a → H a ≠ none) (tb : ∀ a, T.tab a → GxR.TabG H a) (r : RepL (gx X T) H (avo Fb F) ds vs)
    (o : Out X T σ H (mf ds) fun d => ∀ v H', Same H H' → Rep (gx X T) H' (avo Fb F) d v → Q v H') : ∃ E : XK, PassesAt (L2.CX X.prog X.w) X σ E ∧ spD X.K T n mf vs H Q E := by
  cases q : mf ds with
  | ok d =>
    rw [q] at o
    exact ⟨E0, fun _ _ _ _ _ _ h => by obtain ⟨_, _, _, _, _, _, _, _, _, _, _, _, z⟩ := h; exact z.elim, hl, tb, avo Fb F, ds, hav, r, by rw [q]; exact o⟩
  | err x =>
    rw [q] at o
    obtain ⟨W, tk, f⟩ := o
    exact ⟨WE W σ, passAt tk σ, hl, tb, avo Fb F, ds, hav, r, by rw [q]; exact f⟩
  | bad => rw [q] at o; exact False.elim o
theorem binds_len {fd : FuncData} {ps : List Str} {K : PySem.W.Frag} {mg : Str → Option Value} {base : Heap} {P : Program} {w : World} {f : Addr} {CX : CXT} {sp : Sp} {vs : List V} {H : Hp} {Q : VK} {E : XK}
    (F : FnOk P w K mg base CX k f fd ps sp) (h : sp vs H Q E) : vs.length = ps.length := F.len _ _ _ _ h
theorem me_call {mf : List D → Res D} {ms : Env → Res (List D)} (F : FnAt X.prog X.w X.K X.mg X.base T k x (es.length + 1) mf) (hr : Room k X.A) (ha : ML T Fb X (e :: es) ms) (hl : ∀ ρ ds, ms ρ = .ok ds → ds.length = es.length + 1) (hg : Gl X x := by rfl) (hdb : (x == ("__debug__" : Str)) = false := by decide)
    (he : starEach (e :: es) X.env = (false, eval e X.env) :: starEach es X.env := by rfl) (hpl : (backTo pos (starEach es X.env)).any (·.1) = false := by rfl) : ME T Fb X (.Call (.Name x p) (e :: es) [] pos) (mArg mf ms) := by
  obtain ⟨f, fd, ps, F, hm, hk, hb⟩ := F.ex
  refine ⟨fun σ H Fo ρ Q S o pins s I => ?_⟩
  refine wpAny_Call_Name_kw (ld_glob I hg hm ?_ hdb)
  have args : TWa X (e :: es) σ H fun vs H1 => ∃ E : XK, PassesAt (L2.CX X.prog X.w) X σ E ∧ spD X.K T (es.length + 1) mf vs H1 Q E := by
    refine ha.run σ H Fo ρ _ S (o.bind.imp fun ds e1 o1 vs H1 s1 r1 => ?_)
    exact spD_of (by rw [r1.length]; exact hl _ _ e1) (S.same s1).av (S.same s1).tbs r1 ((o1.same s1).imp fun d _ f v H2 s2 r2 => f v H2 (s1.trans s2) r2)
  refine PySem.W.callWith_K (h₀ := X.base) I.ok.mod.kin hk (thn (args pos pins s I) fun us s1 ⟨vs, H1, I1, r, E, hx, q⟩ => ⟨I1.kIn, ?_⟩) he hpl
  exact run_fnS (E := fun _ => E) F hr hb hx I1 r q
theorem me_call0 {mf : List D → Res D} (F : FnAt X.prog X.w X.K X.mg X.base T k x 0 mf) (hr : Room k X.A) (hg : Gl X x := by rfl) (hdb : (x == ("__debug__" : Str)) = false := by decide) : ME T Fb X (.Call (.Name x p) [] [] pos) (mArg mf mNil) := by
  obtain ⟨f, fd, ps, F, hm, hk, hb⟩ := F.ex
  refine ⟨fun σ H Fo ρ Q S o pins s I => ?_⟩
  refine wpAny_Call_Name_kw (ld_glob I hg hm ?_ hdb)
  obtain ⟨E, hx, q⟩ := spD_of (X := X) (n := 0) (Q := Q) (vs := []) (ds := []) rfl S.av S.tbs rfl (show Out X T σ H (mf []) _ from o)
  exact PySem.W.callWith_K0 I.kIn hk (run_fnS (us := []) (E := fun _ => E) F hr hb hx I .nil q)
/-- the written arguments' number -/
theorem len_nil : ∀ (ρ : Env) (ds : List D), mNil ρ = .ok ds → ds.length = 0 := fun ρ ds h => by cases h; rfl
theorem len_cons {mr : Env → Res (List D)} {n : Nat} (h : ∀ ρ ds, mr ρ = .ok ds → ds.length = n) : ∀ (ρ : Env) (ds : List D), mCons ma mr ρ = .ok ds → ds.length = n + 1 := fun ρ ds e => by
  unfold mCons at e
  cases q : ma ρ with
  | ok y =>
    rw [q, bind_ok] at e
    cases q2 : mr ρ with
    | ok ys => rw [q2, bind_ok] at e; cases e; rw [List.length_cons, h ρ ys q2]
    | err z => rw [q2] at e; cases e
    | bad => rw [q2] at e; cases e
  | err z => rw [q] at e; cases e
  | bad => rw [q] at e; cases e
/-- o.m(..), o a whole instance of the class c -/
def mMth {α : Type} (c : Nat) (mf : List D → Res α) (mo : Env → Res D) (ms : Env → Res (List D)) : Env → Res α := fun ρ => mo ρ >>= fun d => match d with
  | .obj c' xs => if c' = c then ms ρ >>= fun ds => mf (.obj c' xs :: ds) else .bad
  | _ => .bad
theorem zip_lookup_none : ∀ {ns : List Str} {vs : List V} {f : Str}, f ∉ ns → (ns.zip vs).lookup f = none
  | [], _, _, _ => rfl
  | n :: ns, [], _, _ => rfl
  | n :: ns, v :: vs, f, h => by
    rw [List.zip_cons_cons]
    have h1 : (f == n) = false := by
      cases q : (f == n) with
      | false => rfl
      | true => exact absurd (beq_iff_eq.mp q ▸ List.mem_cons_self) h
    rw [List.lookup_cons, h1]
    exact zip_lookup_none fun z => h (List.mem_cons_of_mem _ z)
theorem me_meth {c : Nat} {mf : List D → Res D} {ms : Env → Res (List D)} {pl : Sem Bool} (F : MthAt X.prog X.w X.K X.mg X.base T k c x (es.length + 1) mf) (cl : Cls X.K (T.addr c)) (hr : Room k X.A) (ho : ME T Fb X o mo) (ha : ML T Fb X (e :: es) ms) (hl : ∀ ρ ds, ms ρ = .ok ds → ds.length = es.length + 1)
    (hx : x ∉ flds c := by decide +kernel) (hst : starEach (e :: es) X.env = (false, eval e X.env) :: starEach es X.env := by rfl) (hpl : (backTo pos (starEach es X.env)).any (·.1) = false := by rfl)
    (ht : eval (.Call (.Attribute o x apos) (e :: es) [] pos) X.env = (do
      let ov ← eval o X.env
      standAt apos.atName
      let (f, first) ← holding [ov] (getMethod ov x pl)
      callWith pos f first (backTo pos (starEach (e :: es) X.env)) (backToKw pos (keywordEach [] X.env))) := by rfl) : ME T Fb X (.Call (.Attribute o x apos) (e :: es) [] pos) (mMth c mf mo ms) := by
  obtain ⟨f, fd, ps, F, hm, hb⟩ := F.ex
  refine ⟨fun σ H Fo ρ Q S o' pins s I => ?_⟩
  refine PySem.W.methodCall_KW (pl := pl) (thn (ho.run σ H Fo ρ (fun v H1 => ∃ a dx fs, v = .ref a ∧ H1 a = some (.ins (T.addr c) dx fs) ∧ fs.lookup x = none ∧ TWa X (e :: es) σ H1 fun vs H2 => ∃ E : XK, PassesAt (L2.CX X.prog X.w) X σ E ∧ spD X.K T (es.length + 2) mf (v :: vs) H2 Q E) S (o'.bind.imp fun d _ o1 v H1 s1 r1 => ?_) pins s I)
    fun u s1 ⟨v, H1, I1, rx, a, dx, fs, ex, ea, l, q⟩ => ?_) ht
  · cases d with
    | obj c' xs =>
      by_cases hc : c' = c
      · subst hc
        have o1 : Out X T σ H (if c' = c' then ms ρ >>= fun ds => mf (.obj c' xs :: ds) else .bad) _ := o1
        rw [if_pos rfl] at o1
        obtain ⟨a, dx, vs0, rfl, ⟨h1, na⟩, hl0, h2⟩ := id r1
        refine ⟨a, dx, _, rfl, h1, zip_lookup_none hx, ?_⟩
        refine ha.run σ H1 Fo ρ _ (S.same s1) ((o1.same s1).bind.imp fun ds e1 o2 vs H2 s2 r2 => ?_)
        exact spD_of (ds := .obj c' xs :: ds) (by rw [List.length_cons, r2.length, hl _ _ e1]) ((S.same s1).same s2).av ((S.same s1).same s2).tbs ⟨_, _, rfl, r1.same s2, r2⟩ ((o2.same s2).imp fun d _ f v H3 s3 r3 => f v H3 (s1.trans (s2.trans s3)) r3)
      · have o1 : Out X T σ H (if c' = c then ms ρ >>= fun ds => mf (.obj c' xs :: ds) else .bad) _ := o1
        rw [if_neg hc] at o1
        exact False.elim o1
    | _ => exact False.elim o1
  · subst ex
    obtain rfl : u = Value.ref a := rx
    refine getmeth_ok I1 ea cl hm l ?_
    refine PySem.W.callWith_K (first := [.ref a]) (h₀ := X.base) I.ok.mod.kin hm.kp (thn (q pos pins s1 I1) fun us s2 ⟨vs, H2, I2, r, E, hx, q2⟩ => ⟨I2.kIn, ?_⟩) hst hpl
    exact run_fnS (us := .ref a :: us) (vs := .ref a :: vs) (E := fun _ => E) F hr hb hx I2 (.cons rfl r) q2
theorem me_meth0 {c : Nat} {mf : List D → Res D} {pl : Sem Bool} (F : MthAt X.prog X.w X.K X.mg X.base T k c x 0 mf) (cl : Cls X.K (T.addr c)) (hr : Room k X.A) (ho : ME T Fb X o mo)
    (hx : x ∉ flds c := by decide +kernel)
    (ht : eval (.Call (.Attribute o x apos) [] [] pos) X.env = (do
      let ov ← eval o X.env
      standAt apos.atName
      let (f, first) ← holding [ov] (getMethod ov x pl)
      callWith pos f first (backTo pos (starEach [] X.env)) (backToKw pos (keywordEach [] X.env))) := by rfl) : ME T Fb X (.Call (.Attribute o x apos) [] [] pos) (mMth c mf mo mNil) := by
  obtain ⟨f, fd, ps, F, hm, hb⟩ := F.ex
  refine ⟨fun σ H Fo ρ Q S o' pins s I => ?_⟩
  refine PySem.W.methodCall_KW (pl := pl) (thn (ho.run σ H Fo ρ (fun v H1 => ∃ a dx fs, v = .ref a ∧ H1 a = some (.ins (T.addr c) dx fs) ∧ fs.lookup x = none ∧ ∃ E : XK, PassesAt (L2.CX X.prog X.w) X σ E ∧ spD X.K T 1 mf [v] H1 Q E) S (o'.bind.imp fun d _ o1 v H1 s1 r1 => ?_) pins s I)
    fun u s1 ⟨v, H1, I1, rx, a, dx, fs, ex, ea, l, E, hx, q⟩ => ?_) ht
  · cases d with
    | obj c' xs =>
      by_cases hc : c' = c
      · subst hc
        have o1 : Out X T σ H (if c' = c' then mNil ρ >>= fun ds => mf (.obj c' xs :: ds) else .bad) _ := o1
        rw [if_pos rfl] at o1
        obtain ⟨a, dx, vs0, rfl, ⟨h1, na⟩, hl0, h2⟩ := id r1
        refine ⟨a, dx, _, rfl, h1, zip_lookup_none hx, ?_⟩
        exact spD_of (ds := [.obj c' xs]) rfl (S.same s1).av (S.same s1).tbs ⟨_, _, rfl, r1, rfl⟩ ((o1.same s1).imp fun d _ f v H3 s3 r3 => f v H3 (s1.trans s3) r3)
      · have o1 : Out X T σ H (if c' = c then mNil ρ >>= fun ds => mf (.obj c' xs :: ds) else .bad) _ := o1
        rw [if_neg hc] at o1
        exact False.elim o1
    | _ => exact False.elim o1
  · subst ex
    obtain rfl : u = Value.ref a := rx
    refine getmeth_ok I1 ea cl hm l ?_
    exact PySem.W.callWith_K0 (first := [.ref a]) I1.kIn hm.kp (run_fnS (us := [.ref a]) (vs := [.ref a]) (E := fun _ => E) F hr hb hx I1 (.cons rfl .nil) q)
/-- C(..) -/
def mMk (c : Nat) (mf : List D → Res (List D)) (ms : Env → Res (List D)) : Env → Res D := fun ρ => ms ρ >>= fun ds => mf ds >>= fun fs => .ok (.obj c fs)
theorem run_makeS {CX : CXT} {C f : Addr} {fd : FuncData} {ps : List Str} {sp : Sp} {E : XK} {pins : List (Addr × Obj)} {σ : L2.St} {H : Hp} {s : Shared} {Q : VK} {us : List Value} {vs : List V} (M : Mk X.K C f) (F : FnOk X.prog X.w X.K X.mg X.base CX k f fd ps sp) (hr : Room (k + 1) X.A) (hb : Binds X.K fd ps [])
    (hx : PassesAt CX X σ E) (I : Inv X pins σ H s) (r : Vals vs us)
    (h : ∀ x dx, H x = none → H dx = none → dx ≠ x → sp (.ref x :: vs) (upd (upd H dx (.own x)) x (.ins C dx [])) (fun v H2 => v = .non ∧ Q (.ref x) H2) E) :
    wpAny (model X.prog X.w) X.A (call (.ref C) us) (EP X pins σ Q) X.xe s := by
  have hq := h (s.heap.objs.size + 1) s.heap.objs.size (I.hok.fresh (Nat.le_succ _)) (I.hok.fresh (Nat.le_refl _)) (Nat.ne_of_lt (Nat.lt_succ_self _))
  have I2 := Inv.made (C := C) I
  have r2 : Vals (V.ref (s.heap.objs.size + 1) :: vs) (Value.ref (s.heap.objs.size + 1) :: us) := .cons rfl r
  have hl : (Value.ref (s.heap.objs.size + 1) :: us).length = ps.length := by
    have e := r2.length
    rw [F.len _ _ _ _ hq] at e
    exact e.symm
  have b := hb _ (Value.ref (s.heap.objs.size + 1) :: us) I2.kIn (by rw [List.append_nil]; exact hl)
  rw [List.append_nil] at b
  refine wpAny_call (make_map (f := f) I.kIn M.makes M.init (beq_iff_eq.mp M.fn) (codeAny_mono (F.run _ X.stack _ _ ⟨Value.ref (s.heap.objs.size + 1) :: us, []⟩ (Value.ref (s.heap.objs.size + 1) :: us) _ _ E (hr.make C us [])
    (I2.env0.make C us []) b r2 hq) fun r s' hq' => ?_))
  cases r with
  | error e => exact hx pins _ _ e s' I2 hq'
  | ok fl =>
    cases fl with
    | ret u =>
      obtain ⟨v, H', I3, rv, ev, q3⟩ := I2.after hq'
      subst ev
      exact ⟨rv, ⟨V.ref (s.heap.objs.size + 1), H', I3, rfl, q3⟩⟩
    | next => exact False.elim hq'
    | brk => exact False.elim hq'
    | cont => exact False.elim hq'
theorem me_make {c : Nat} {mf : List D → Res (List D)} {ms : Env → Res (List D)} (F : MkAt X.prog X.w X.K X.mg X.base T k c x (es.length + 1) mf) (hr : Room (k + 1) X.A) (ha : ML T Fb X (e :: es) ms) (hl : ∀ ρ ds, ms ρ = .ok ds → ds.length = es.length + 1) (hg : Gl X x := by rfl) (hdb : (x == ("__debug__" : Str)) = false := by decide)
    (he : starEach (e :: es) X.env = (false, eval e X.env) :: starEach es X.env := by rfl) (hpl : (backTo pos (starEach es X.env)).any (·.1) = false := by rfl) : ME T Fb X (.Call (.Name x p) (e :: es) [] pos) (mMk c mf ms) := by
  obtain ⟨f, fd, ps, F, hm, M, hb⟩ := F.ex
  refine ⟨fun σ H Fo ρ Q S o pins s I => ?_⟩
  refine wpAny_Call_Name_kw (ld_glob I hg hm ?_ hdb)
  have args : TWa X (e :: es) σ H fun vs H1 => ∃ E : XK, PassesAt (L2.CX X.prog X.w) X σ E ∧ ∀ x dx, H1 x = none → H1 dx = none → dx ≠ x →
      spI X.K T c (es.length + 1) mf (.ref x :: vs) (upd (upd H1 dx (.own x)) x (.ins (T.addr c) dx [])) (fun v H2 => v = .non ∧ Q (.ref x) H2) E := by
    refine ha.run σ H Fo ρ _ S (o.bind.imp fun ds e1 o1 vs H1 s1 r1 => ?_)
    have S1 := S.same s1
    have up : ∀ {x dx : Addr}, H1 x = none → H1 dx = none → dx ≠ x → Same H1 (upd (upd H1 dx (.own x)) x (.ins (T.addr c) dx [])) := fun {x dx} hx hd ne a o e => by
      rw [upd_ne (ne_of_none e hx), upd_ne (ne_of_none e hd)]; exact .of e
    have kp : ∀ {x dx : Addr}, H1 x = none → H1 dx = none → dx ≠ x → Kept H1 (upd (upd H1 dx (.own x)) x (.ins (T.addr c) dx [])) (avo Fb Fo) (fun a => a = x ∨ avo Fb Fo a) := fun {x dx} hx hd ne =>
      ⟨fun a o e _ => up hx hd ne a o e, fun a z => z.elim (fun q => .inr (by rw [q]; exact hx)) .inl⟩
    have fin : ∀ {x : Addr} {H' H'' : Hp}, H1 x = none → (∀ a o, H' a = some o → a ≠ x → Lke o (H'' a)) → Same H1 H' → Same H1 H'' := fun {x H' H''} hx f s a o e => (s a o e).trans fun o' h' => f a o' h' (ne_of_none e hx)
    cases q : mf ds with
    | ok fs =>
      rw [q] at o1
      refine ⟨E0, fun _ _ _ _ _ _ h => by obtain ⟨_, _, _, _, _, _, _, _, _, _, _, _, z⟩ := h; exact z.elim, fun x dx hx hd ne => ?_⟩
      refine ⟨by rw [List.length_cons, r1.length, hl _ _ e1], (S1.same (up hx hd ne)).tbs, avo Fb Fo, ds, x, dx, vs, rfl, fun a z => (S1.same (up hx hd ne)).av a z, avo_no S1.av hx, upd_same, RepL.mono (kp hx hd ne) ds r1, ?_⟩
      rw [q]
      exact fun H' k r => ⟨rfl, o1 _ _ (s1.trans (fin hx k (up hx hd ne))) r⟩
    | err z =>
      rw [q] at o1
      obtain ⟨W, tk, f⟩ := o1
      refine ⟨WE W σ, passAt tk σ, fun x dx hx hd ne => ?_⟩
      refine ⟨by rw [List.length_cons, r1.length, hl _ _ e1], (S1.same (up hx hd ne)).tbs, avo Fb Fo, ds, x, dx, vs, rfl, fun a z => (S1.same (up hx hd ne)).av a z, avo_no S1.av hx, upd_same, RepL.mono (kp hx hd ne) ds r1, ?_⟩
      rw [q]
      exact fun cls d H' k r => f cls d H' (s1.trans (fin hx k (up hx hd ne))) r
    | bad => rw [q] at o1; exact False.elim o1
  refine PySem.W.callWith_K (h₀ := X.base) I.ok.mod.kin M.kp (thn (args pos pins s I) fun us s1 ⟨vs, H1, I1, r, E, hx, q⟩ => ⟨I1.kIn, ?_⟩) he hpl
  exact run_makeS M F hr hb hx I1 r q
/-- o.f, o a whole instance of the class c; f its j-th field -/
def fldD (c j : Nat) : D → Res D
  | .obj c' xs => if c' = c then opt xs[j]? else .bad
  | _ => .bad
theorem zip_lookup : ∀ {ns : List Str} {vs : List V} {f : Str} {j : Nat} {v : V}, ns.Nodup → ns[j]? = some f → vs[j]? = some v → (ns.zip vs).lookup f = some v
  | [], _, _, _, _, _, h, _ => by simp at h
  | n :: ns, [], _, _, _, _, _, h => by simp at h
  | n :: ns, w :: vs, f, 0, v, nd, h1, h2 => by
    simp at h1 h2
    subst h1 h2
    rw [List.zip_cons_cons, List.lookup_cons, beq_self_eq_true]
  | n :: ns, w :: vs, f, j + 1, v, nd, h1, h2 => by
    rw [List.zip_cons_cons, List.lookup_cons]
    have h1' : ns[j]? = some f := by simpa using h1
    have hf : (f == n) = false := by
      cases q : (f == n) with
      | false => rfl
      | true =>
        have e := beq_iff_eq.mp q
        rw [e] at h1'
        exact absurd (List.mem_of_getElem? h1') (List.nodup_cons.mp nd).1
    rw [hf]
    exact zip_lookup (List.nodup_cons.mp nd).2 h1' (by simpa using h2)
theorem me_fld (c j : Nat) {f : Str} (cl : Cls X.K (T.addr c)) (na : NoAttr X.K (T.addr c) f) (ho : ME T Fb X o mo) (hj : (flds c)[j]? = some f := by rfl) (nd : (flds c).Nodup := by decide +kernel)
    (hb : attributeBase o f X.env (eval o X.env) = eval o X.env := by rfl) : ME T Fb X (.Attribute o f pos) (mUn (fldD c j) mo) := by
  refine ⟨fun σ H F ρ Q S o' => (pe_fld pe_tw hb).tw ?_⟩
  refine ho.run σ H F ρ _ S (o'.bind.imp fun d _ o1 v H1 s1 r1 => ?_)
  cases d with
  | obj c' xs =>
    by_cases hc : c' = c
    · subst hc
      have o1 : Out X T σ H (if c' = c' then opt xs[j]? else .bad) _ := o1
      rw [if_pos rfl] at o1
      obtain ⟨d, e, f⟩ := o1.opt
      obtain ⟨a, dx, vs, rfl, ⟨h1, na'⟩, hl, h2⟩ := r1
      obtain ⟨w, e2, r⟩ := h2.get e
      exact ⟨a, _, dx, _, w, rfl, h1, cl, na, zip_lookup nd hj e2, f _ _ s1 r⟩
    · have o1 : Out X T σ H (if c' = c then opt xs[j]? else .bad) _ := o1
      rw [if_neg hc] at o1
      exact False.elim o1
  | _ => exact False.elim o1
end
end Cr
/-! Core, part 6: statements, targets, loops. -/
namespace Cr
open PySem PySem.Spec PyProof.Rows L2
inductive Flow where
  | nx (ρ : Env)
  | rt (d : D) (ρ : Env)
  | er (x : Exc) (ρ : Env)
  | bad
def bindF {α : Type} (r : Res α) (ρ : Env) (f : α → Flow) : Flow := match r with
  | .ok a => f a
  | .err x => .er x ρ
  | .bad => .bad
theorem bindF_ok {α : Type} (a : α) (ρ : Env) (f : α → Flow) : bindF (.ok a) ρ f = f a := rfl
theorem bindF_err {α : Type} (x : Exc) (ρ : Env) (f : α → Flow) : bindF (.err x) ρ f = .er x ρ := rfl
theorem bindF_bad {α : Type} (ρ : Env) (f : α → Flow) : bindF .bad ρ f = .bad := rfl
def OutS (X : Cx) (T : CT) (Fb : Gh) (D : Ends) (H : Hp) (F : List Addr) : Flow → Prop
  | .nx ρ' => ∀ σ' H' F', Post H F H' F' → StR (gx X T) Fb H' σ' ρ' F' → D.nx σ' H'
  | .rt d ρ' => ∀ v σ' H' F', Post H F H' F' → StR (gx X T) Fb H' σ' ρ' F' → Rep (gx X T) H' (avo Fb F') d v → D.rt v H'
  | .er x ρ' => ∃ W, Takes X W ∧ ∀ cls d σ' H' F', Post H F H' F' → StR (gx X T) Fb H' σ' ρ' F' → ExcRep (gx X T) H' x cls d → W cls d σ' H'
  | .bad => False
section
variable (T : CT) (Fb : Gh) (X : Cx)
structure MS (st : Stmt) (m : Env → Flow) : Prop where
  run : ∀ (σ : L2.St) (H : Hp) (F : List Addr) (ρ : Env) (D : Ends), StR (gx X T) Fb H σ ρ F → OutS X T Fb D H F (m ρ) → TWs X st D σ H
structure MSs (st : List Stmt) (m : Env → Flow) : Prop where
  run : ∀ (σ : L2.St) (H : Hp) (F : List Addr) (ρ : Env) (D : Ends), StR (gx X T) Fb H σ ρ F → OutS X T Fb D H F (m ρ) → TWss X st D σ H
end
section
variable {T : CT} {Fb : Gh} {X : Cx} {σ : L2.St} {H H1 : Hp} {F F1 : List Addr} {ρ : Env} {D : Ends} {fl : Flow}
theorem OutS.post (o : OutS X T Fb D H F fl) (p : Post H F H1 F1) : OutS X T Fb D H1 F1 fl := by
  cases fl with
  | nx ρ' => exact fun σ' H' F' q => o σ' H' F' (p.trans q)
  | rt d ρ' => exact fun v σ' H' F' q => o v σ' H' F' (p.trans q)
  | er x ρ' => obtain ⟨W, tk, f⟩ := o; exact ⟨W, tk, fun cls d σ' H' F' q => f cls d σ' H' F' (p.trans q)⟩
  | bad => exact o
theorem OutS.same (o : OutS X T Fb D H F fl) (s : Same H H1) : OutS X T Fb D H1 F fl := o.post (Post.of_same s)
theorem OutS.toOut {α : Type} {r : Res α} {f : α → Flow} (S : StR (gx X T) Fb H σ ρ F) (o : OutS X T Fb D H F (bindF r ρ f)) : Out X T σ H r fun a => OutS X T Fb D H F (f a) := by
  cases r with
  | ok a => exact o
  | err x =>
    obtain ⟨W, tk, g⟩ := o
    exact ⟨W, tk, fun cls d H' s r => g cls d σ H' F (Post.of_same s) (S.same s) r⟩
  | bad => exact o
end
/-! ### slots stored -/
/-- a slot that may be stored -/
def okS (ρ : Env) (i : Nat) : Bool := match ρ[i]? with
  | some (.oo _ _) => false
  | some _ => true
  | none => false
theorem okS_lt {ρ : Env} {i : Nat} (h : okS ρ i = true) : i < ρ.length := by
  unfold okS at h
  cases q : ρ[i]? with
  | none => rw [q] at h; cases h
  | some s => exact (List.getElem?_eq_some_iff.mp q).1
theorem okS_ne {ρ : Env} {i : Nat} (h : okS ρ i = true) : ∀ c fs, ρ[i]? ≠ some (.oo c fs) := fun c fs e => by
  unfold okS at h
  rw [e] at h
  cases h
def put (i : Nat) (s : Sl) (ρ : Env) : Flow := if okS ρ i = true then .nx (ρ.set i s) else .bad
section
variable {G : Gx} {Fb : Gh} {H H' : Hp} {σ : L2.St} {ρ : Env} {F : List Addr} {i : Nat}
theorem kept_sub {A A' : Addr → Prop} (h : ∀ a, A' a → A a) : Kept H H A A' := ⟨fun _ _ e _ => .of e, fun a z => .inl (h a z)⟩
/-- a slot takes a thing that owns nothing -/
theorem StR.sfSet (S : StR G Fb H σ ρ F) (hi : Fb.me = none ∨ ∀ c fs, ρ[i]? ≠ some (.oo c fs)) (t : Sl) (o' : Option V) : ∀ a, Fb.me = some a → (σ.set i o')[0]? = some (some (.ref a)) ∧ ∃ c fs, (ρ.set i t)[0]? = some (.oo c fs) := fun a h => by
  obtain ⟨h1, c, fs, h2⟩ := S.sf a h
  rcases hi with hi | hi
  · rw [hi] at h; cases h
  · have h0 : i ≠ 0 := fun z => hi c fs (by rw [z]; exact h2)
    rw [List.getElem?_set_ne h0, List.getElem?_set_ne h0]
    exact ⟨h1, c, fs, h2⟩
theorem StR.setN (S : StR G Fb H σ ρ F) (hi : i < ρ.length) (ho : Fb.me = none ∨ ∀ c fs, ρ[i]? ≠ some (.oo c fs)) {t : Sl} {o' : Option V} (r : RepSl G H (avo Fb F) t o' []) : StR G Fb H (σ.set i o') (ρ.set i t) F := by
  obtain ⟨F0, e, nd, sub⟩ := S.ex
  obtain ⟨o, p1, p, p2, e1, e2, r1, f⟩ := e.focus (List.getElem?_eq_getElem hi)
  refine ⟨⟨p1 ++ [] ++ p2, f (kept_sub fun _ z => z) (fun _ _ => rfl) (fun _ _ => rfl) r, ?_, fun a ha => sub a ?_⟩, S.dom, S.fb, S.sfSet ho t o', S.tb⟩
  · rw [e2] at nd
    refine nd.sublist ?_
    rw [List.append_nil, List.append_assoc]
    exact (List.Sublist.refl p1).append (List.sublist_append_right p p2)
  · rw [e2]
    simp only [List.append_nil, List.mem_append] at ha ⊢
    rcases ha with h | h
    · exact .inl (.inl h)
    · exact .inr h
/-- a slot takes a whole value -/
theorem StR.setD (S : StR G Fb H σ ρ F) (hi : okS ρ i = true) {d : D} {v : V} (r : Rep G H (avo Fb F) d v) : StR G Fb H (σ.set i (some v)) (ρ.set i (.v (.d d))) F := S.setN (okS_lt hi) (.inr (okS_ne hi)) ⟨v, rfl, rfl, r⟩
/-- a slot takes a new list -/
theorem StR.setO (S : StR G Fb H σ ρ F) (hk : okS ρ i = true) {ds : List D} {vs : List V} {p : Addr} (s : Same H H') (np : H p = none) (hp : H' p = some (.lst vs)) (r : RepL G H' (fun a => a = p ∨ avo Fb F a) ds vs) :
    Post H F H' (p :: F) ∧ StR G Fb H' (σ.set i (some (.ref p))) (ρ.set i (.v (.ol ds))) (p :: F) := by
  obtain ⟨F0, e, nd, sub⟩ := S.ex
  have hi := okS_lt hk
  obtain ⟨o, p1, q, p2, e1, e2, r1, f⟩ := e.focus (List.getElem?_eq_getElem hi)
  have nF : p ∉ F := fun z => absurd np (S.dom p z)
  have dm : ∀ a ∈ F0, H' a = H a := fun a ha => same_at s (e.dom a ha)
  have m1 : ∀ a ∈ p1, a ∈ F := fun a ha => sub a (by rw [e2]; exact List.mem_append_left _ (List.mem_append_left _ ha))
  have m2 : ∀ a ∈ p2, a ∈ F := fun a ha => sub a (by rw [e2]; exact List.mem_append_right _ ha)
  have post : Post H F H' (p :: F) := ⟨fun a o e _ => s a o e, fun a z => (List.mem_cons.mp z).elim (fun e => .inr (by rw [e]; exact np)) .inl⟩
  have av2 : ∀ a, avo Fb (p :: F) a → a = p ∨ avo Fb F a := fun a z => by
    rcases z with z | z
    · rcases List.mem_cons.mp z with z | z
      · exact .inl z
      · exact .inr (.inl z)
    · exact .inr (.inr z)
  refine ⟨post, ⟨p1 ++ [p] ++ p2, f (s' := .v (.ol ds)) (o' := some (.ref p)) post.kept (fun a ha => dm a (by rw [e2]; exact List.mem_append_left _ (List.mem_append_left _ ha))) (fun a ha => dm a (by rw [e2]; exact List.mem_append_right _ ha)) ⟨_, rfl, p, vs, rfl, rfl, hp, RepL.mono (kept_sub av2) ds r⟩, ?_, fun a ha => ?_⟩, fun a ha => ?_, fun a h => ⟨?_, fun z => ?_⟩, S.sfSet (.inr (okS_ne hk)) _ _, fun a h => post.tab (S.tb a h)⟩
  · rw [e2] at nd
    have nd2 : (p1 ++ p2).Nodup := nd.sublist (by rw [List.append_assoc]; exact (List.Sublist.refl p1).append (List.sublist_append_right q p2))
    rw [List.append_assoc]
    obtain ⟨n1, n2, n3⟩ := List.nodup_append.mp nd2
    refine List.nodup_append.mpr ⟨n1, List.nodup_cons.mpr ⟨fun z => nF (m2 p z), n2⟩, fun a ha b hb => ?_⟩
    rcases List.mem_cons.mp hb with e | hb
    · rw [e]; exact fun z => nF (by rw [← z]; exact m1 a ha)
    · exact n3 a ha b hb
  · simp only [List.mem_append, List.mem_singleton] at ha
    rcases ha with (h | h) | h
    · exact List.mem_cons_of_mem _ (m1 a h)
    · rw [h]; exact List.mem_cons_self
    · exact List.mem_cons_of_mem _ (m2 a h)
  · rcases List.mem_cons.mp ha with z | z
    · rw [z, hp]; exact fun z => by cases z
    · exact s.some (S.dom a z)
  · exact s.some (S.fb a h).1
  · rcases List.mem_cons.mp z with z | z
    · exact (S.fb a h).1 (by rw [z]; exact np)
    · exact (S.fb a h).2 z
theorem StR.sfKeep (S : StR G Fb H σ ρ F) {f : Fd} (e : ρ[i]? = some (.v f)) (t : Sl) : ∀ a, Fb.me = some a → σ[0]? = some (some (.ref a)) ∧ ∃ c fs, (ρ.set i t)[0]? = some (.oo c fs) := fun a h => by
  obtain ⟨h1, c, fs, h2⟩ := S.sf a h
  have h0 : i ≠ 0 := fun z => by rw [z, h2] at e; cases e
  rw [List.getElem?_set_ne h0]
  exact ⟨h1, c, fs, h2⟩
theorem set_same {α : Type} {l : List α} {i : Nat} {a : α} (e : l[i]? = some a) : l.set i a = l := by
  obtain ⟨hlt, e⟩ := List.getElem?_eq_some_iff.mp e
  rw [← e, List.set_getElem_self]
/-- an owned list is changed -/
theorem StR.chgO (S : StR G Fb H σ ρ F) {xs : List D} (e : ρ[i]? = some (.v (.ol xs))) : ∃ a vs, σ[i]? = some (some (.ref a)) ∧ H a = some (.lst vs) ∧ RepL G H (avo Fb F) xs vs ∧ a ∈ F ∧
    ∀ {ys : List D} {ws : List V}, RepL G H (avo Fb F) ys ws → Post H F (upd H a (.lst ws)) F ∧ StR G Fb (upd H a (.lst ws)) σ (ρ.set i (.v (.ol ys))) F := by
  obtain ⟨F0, r0, nd, sub⟩ := S.ex
  obtain ⟨o, p1, p, p2, e1, e2, r1, f⟩ := r0.focus e
  obtain ⟨v, rfl, a, vs, rfl, rfl, h1, h2⟩ := r1
  have ma : a ∈ F := sub a (by rw [e2]; simp)
  refine ⟨a, vs, e1, h1, h2, ma, fun {ys ws} r => ?_⟩
  have post : Post H F (upd H a (.lst ws)) F := ⟨fun b o h n => by rw [upd_ne (fun z => n (by rw [z]; exact ma))]; exact .of h, fun _ h => .inl h⟩
  rw [e2] at nd
  have na1 : a ∉ p1 := fun z => (List.nodup_append.mp (List.nodup_append.mp nd).1).2.2 a z a (by simp) rfl
  have na2 : a ∉ p2 := fun z => (List.nodup_append.mp nd).2.2 a (by simp) a z rfl
  have up : ∀ b, H b ≠ none → upd H a (.lst ws) b ≠ none := fun b h => by
    by_cases hb : b = a
    · rw [hb, upd_same]; exact fun z => by cases z
    · rw [upd_ne hb]; exact h
  refine ⟨post, ⟨F0, ?_, by rw [e2]; exact nd, sub⟩, fun b h => up b (S.dom b h), fun b h => ⟨up b (S.fb b h).1, (S.fb b h).2⟩, S.sfKeep e _, fun b h => post.tab (S.tb b h)⟩
  have k := f (s' := .v (.ol ys)) (o' := some (.ref a)) (p' := [a]) (post.kept (Fb := Fb)) (fun b hb => upd_ne fun z => na1 (by rw [← z]; exact hb)) (fun b hb => upd_ne fun z => na2 (by rw [← z]; exact hb))
    ⟨_, rfl, a, ws, rfl, rfl, upd_same, RepL.mono post.kept ys r⟩
  rw [← e2, set_same e1] at k
  exact k
theorem mem_filter_ne {F : List Addr} {a b : Addr} : b ∈ F.filter (fun c => decide (c ≠ a)) ↔ b ∈ F ∧ b ≠ a := by
  rw [List.mem_filter]; simp
/-- an owned list is whole from now on -/
theorem StR.frz (S : StR G Fb H σ ρ F) {xs : List D} (e : ρ[i]? = some (.v (.ol xs))) : ∃ F', (∀ a ∈ F', a ∈ F) ∧ StR G Fb H σ (ρ.set i (.v (.d (.lst xs)))) F' := by
  obtain ⟨F0, r0, nd, sub⟩ := S.ex
  obtain ⟨o, p1, p, p2, e1, e2, r1, f⟩ := r0.focus e
  obtain ⟨v, rfl, a, vs, rfl, rfl, h1, h2⟩ := r1
  have ma : a ∈ F := sub a (by rw [e2]; simp)
  rw [e2] at nd
  have na1 : a ∉ p1 := fun z => (List.nodup_append.mp (List.nodup_append.mp nd).1).2.2 a z a (by simp) rfl
  have na2 : a ∉ p2 := fun z => (List.nodup_append.mp nd).2.2 a (by simp) a z rfl
  have sub2 : ∀ b ∈ F.filter (fun c => decide (c ≠ a)), b ∈ F := fun b h => (mem_filter_ne.mp h).1
  have k : Kept H H (avo Fb F) (avo Fb (F.filter (fun c => decide (c ≠ a)))) := kept_sub fun b z => z.elim (fun h => .inl (sub2 b h)) .inr
  have nav : ¬ avo Fb (F.filter (fun c => decide (c ≠ a))) a := fun z => by
    rcases z with z | z
    · exact (mem_filter_ne.mp z).2 rfl
    · exact (S.fb a z).2 ma
  refine ⟨_, sub2, ⟨p1 ++ [] ++ p2, ?_, ?_, fun b hb => mem_filter_ne.mpr ⟨sub b ?_, ?_⟩⟩, fun b h => S.dom b (sub2 b h), fun b h => ⟨(S.fb b h).1, fun z => (S.fb b h).2 (sub2 b z)⟩, S.sfKeep e _, fun b h => ⟨(S.tb b h).1, fun z => (S.tb b h).2 (sub2 b z)⟩⟩
  · have q := f (s' := .v (.d (.lst xs))) (o' := some (.ref a)) (p' := []) k (fun _ _ => rfl) (fun _ _ => rfl) ⟨_, rfl, rfl, a, vs, rfl, ⟨h1, nav⟩, RepL.mono k xs h2⟩
    rw [set_same e1] at q
    exact q
  · refine nd.sublist ?_
    rw [List.append_nil, List.append_assoc]
    exact (List.Sublist.refl p1).append (List.sublist_append_right [a] p2)
  · rw [e2]
    simp only [List.append_nil, List.mem_append] at hb ⊢
    rcases hb with h | h
    · exact .inl (.inl h)
    · exact .inr h
  · simp only [List.append_nil, List.mem_append] at hb
    rintro rfl
    exact hb.elim na1 na2
end
section
variable {T : CT} {Fb : Gh} {X : Cx} {e a b c o : Expr} {es : List Expr} {st : Stmt} {rest : List Stmt} {me ma : Env → Res D} {m m' : Env → Flow} {pos p apos : Pos} {x : Str} {k n : Nat}
/-! ### blocks and small statements -/
def mEnd : Env → Flow := .nx
def mSeq (m m' : Env → Flow) : Env → Flow := fun ρ => match m ρ with
  | .nx ρ' => m' ρ'
  | f => f
theorem mss_nil : MSs T Fb X [] mEnd := ⟨fun σ H F ρ D S o => pss_nil.tw (o σ H F Post.refl S)⟩
theorem seq_core {D : Ends} {σ : L2.St} {H : Hp} {F : List Addr} {ρ : Env} (h2 : MSs T Fb X rest m') (o : OutS X T Fb D H F (mSeq m m' ρ)) : OutS X T Fb { D with nx := TWss X rest D } H F (m ρ) := by
  unfold mSeq at o
  cases q : m ρ with
  | nx ρ' => rw [q] at o; exact fun σ' H' F' p S' => h2.run σ' H' F' ρ' D S' (OutS.post o p)
  | rt d ρ' => rw [q] at o; exact o
  | er x ρ' => rw [q] at o; exact o
  | bad => rw [q] at o; exact o
theorem mss_cons (h1 : MS T Fb X st m) (h2 : MSs T Fb X rest m') : MSs T Fb X (st :: rest) (mSeq m m') :=
  ⟨fun σ H F ρ D S o => (pss_cons ps_tw pss_tw).tw (h1.run σ H F ρ _ S (seq_core (σ := σ) h2 o))⟩
theorem mss_one (h1 : MS T Fb X st m) : MSs T Fb X [st] m := ⟨fun σ H F ρ D S o => (pss_one ps_tw).tw (h1.run σ H F ρ D S o)⟩
/-- from here on the list in slot i is whole -/
def frzE (i : Nat) (ρ : Env) : Env := match ρ[i]? with
  | some (.v (.ol xs)) => ρ.set i (.v (.d (.lst xs)))
  | _ => ρ
def mFrz (i : Nat) (m : Env → Flow) : Env → Flow := fun ρ => m (frzE i ρ)
theorem mss_frz (i : Nat) (h : MSs T Fb X rest m) : MSs T Fb X rest (mFrz i m) := by
  refine ⟨fun σ H F ρ D S o => ?_⟩
  unfold mFrz frzE at o
  split at o
  · rename_i xs e
    obtain ⟨F', sub, S'⟩ := S.frz e
    exact h.run σ H F' _ D S' (o.post ⟨fun a o h _ => .of h, fun a z => .inl (sub a z)⟩)
  · exact h.run σ H F ρ D S o
theorem ms_pass : MS T Fb X (.Pass pos) mEnd := ⟨fun σ H F ρ D S o => ps_pass.tw (o σ H F Post.refl S)⟩
def mEx {α : Type} (m : Env → Res α) : Env → Flow := fun ρ => bindF (m ρ) ρ fun _ => .nx ρ
theorem ms_expr (he : ME T Fb X e me) (hs : swapsWith e none pos.line X.env = pure false := by rfl) : MS T Fb X (.Expr e pos) (mEx me) :=
  ⟨fun σ H F ρ D S o => (ps_expr pe_tw hs).tw (he.run σ H F ρ _ S ((OutS.toOut S o).imp fun _ _ f _ H1 s _ => f σ H1 F (Post.of_same s) (S.same s)))⟩
def mRet (m : Env → Res D) : Env → Flow := fun ρ => bindF (m ρ) ρ fun d => .rt d ρ
theorem ms_ret (he : ME T Fb X e me) : MS T Fb X (.Return (some e) pos) (mRet me) :=
  ⟨fun σ H F ρ D S o => (ps_ret pe_tw).tw (he.run σ H F ρ _ S ((OutS.toOut S o).imp fun _ _ f v H1 s r => f v σ H1 F (Post.of_same s) (S.same s) r))⟩
def mIfS (t : Env → Res Bool) (m m' : Env → Flow) : Env → Flow := fun ρ => bindF (t ρ) ρ fun k => match k with
  | true => m ρ
  | false => m' ρ
theorem ms_if {t : Env → Res Bool} {A B : List Stmt} (hc : MT T Fb X c t) (ha : MSs T Fb X A m) (hb : MSs T Fb X B m') : MS T Fb X (.If c A B pos) (mIfS t m m') := by
  refine ⟨fun σ H F ρ D S o => (ps_if pt_tw pss_tw pss_tw).tw ?_⟩
  refine hc.run σ H F ρ _ S ((OutS.toOut S o).imp fun k _ o1 H1 s1 => ?_)
  cases k with
  | true => exact iteT (ha.run σ H1 F ρ D (S.same s1) (OutS.same (show OutS X T Fb D H F (m ρ) from o1) s1))
  | false => exact iteF (hb.run σ H1 F ρ D (S.same s1) (OutS.same (show OutS X T Fb D H F (m' ρ) from o1) s1))
/-- x = e -/
def mSet (i : Nat) (m : Env → Res D) : Env → Flow := fun ρ => bindF (m ρ) ρ fun d => put i (.v (.d d)) ρ
theorem OutS.put {D : Ends} {H : Hp} {F : List Addr} {ρ : Env} {i : Nat} {s : Sl} (o : OutS X T Fb D H F (put i s ρ)) : okS ρ i = true ∧ OutS X T Fb D H F (.nx (ρ.set i s)) := by
  unfold Cr.put at o
  by_cases h : okS ρ i = true
  · rw [if_pos h] at o; exact ⟨h, o⟩
  · rw [if_neg h] at o; exact False.elim o
theorem ms_set (i : Nat) {pos' : Pos} (hN : X.N.Nodup) (he : ME T Fb X e me) (hi : X.N[i]? = some x := by rfl) (hx : Loc X.env.scope x := by first | exact Or.inl rfl | exact Or.inr rfl) (hs : swapsWith e (some (.Name x pos')) pos.line X.env = pure false := by rfl)
    (hf : X.fn x = true ∨ X.env.scope.names.lookup x = some .local := by first | exact .inl rfl | exact .inr rfl | assumption) : MS T Fb X (.Assign [.Name x pos'] e pos) (mSet i me) := by
  refine ⟨fun σ H F ρ D S o => (ps_set hN hi hx pe_tw hs hf).tw ?_⟩
  refine he.run σ H F ρ _ S ((OutS.toOut S o).imp fun d _ o1 v H1 s r => ?_)
  obtain ⟨hl, o2⟩ := o1.put
  exact o2 _ _ F (Post.of_same s) ((S.same s).setD hl r)
/-- x = a new list that x will change -/
def mSetO (i : Nat) (m : Env → Res (List D)) : Env → Flow := fun ρ => bindF (m ρ) ρ fun d => put i (.v (.ol d)) ρ
theorem ms_setO (i : Nat) {mf : Env → Res (List D)} {pos' : Pos} (hN : X.N.Nodup) (he : MF T Fb X e mf) (hi : X.N[i]? = some x := by rfl) (hx : Loc X.env.scope x := by first | exact Or.inl rfl | exact Or.inr rfl) (hs : swapsWith e (some (.Name x pos')) pos.line X.env = pure false := by rfl)
    (hf : X.fn x = true ∨ X.env.scope.names.lookup x = some .local := by first | exact .inl rfl | exact .inr rfl | assumption) : MS T Fb X (.Assign [.Name x pos'] e pos) (mSetO i mf) := by
  refine ⟨fun σ H F ρ D S o => (ps_set hN hi hx pe_tw hs hf).tw ?_⟩
  refine he.run σ H F ρ _ S ((OutS.toOut S o).imp fun d _ o1 q vs H1 nq s hq r => ?_)
  obtain ⟨hl, o2⟩ := o1.put
  obtain ⟨p, S'⟩ := S.setO hl s nq hq r
  exact o2 _ _ _ p S'
theorem OutS.if {D : Ends} {H : Hp} {F : List Addr} {c : Prop} [Decidable c] {fl : Flow} (o : OutS X T Fb D H F (if c then fl else .bad)) : c ∧ OutS X T Fb D H F fl := by
  by_cases h : c
  · rw [if_pos h] at o; exact ⟨h, o⟩
  · rw [if_neg h] at o; exact False.elim o
end
end Cr
/-! Core, part 7: methods of one's own lists, fields, targets, loops. -/
namespace Cr
open PySem PySem.Spec PyProof.Rows L2
section
variable {T : CT} {Fb : Gh} {X : Cx} {e a b c o : Expr} {es : List Expr} {st : Stmt} {rest : List Stmt} {me ma : Env → Res D} {m m' : Env → Flow} {pos p apos : Pos} {x : Str} {k n : Nat}
/-! ### x.append(..), x a list of one's own -/
structure LstM (T : CT) (X : Cx) (mid : String) (g : List D → List D → Res (List D)) : Prop where
  ex : ∃ r : V → List V → Hp → VK → Prop, MtR X mid r ∧ ∀ (σ : L2.St) (H : Hp) (Av : Addr → Prop) (l : Addr) (xs ds : List D) (vs ws : List V) (Q : VK), H l = some (.lst vs) → RepL (gx X T) H Av xs vs → Paired (RepB (gx X T) H Av) ds ws →
    Out X T σ H (g xs ds) (fun ys => ∀ vs', RepL (gx X T) H Av ys vs' → Q .non (upd H l (.lst vs'))) → r (.ref l) ws H Q
/-- .. with arguments that go into the list -/
structure LstW (T : CT) (X : Cx) (mid : String) (g : List D → List D → Res (List D)) : Prop where
  ex : ∃ r : V → List V → Hp → VK → Prop, MtR X mid r ∧ ∀ (σ : L2.St) (H : Hp) (Av : Addr → Prop) (l : Addr) (xs ds : List D) (vs ws : List V) (Q : VK), H l = some (.lst vs) → RepL (gx X T) H Av xs vs → RepL (gx X T) H Av ds ws →
    Out X T σ H (g xs ds) (fun ys => ∀ vs', RepL (gx X T) H Av ys vs' → Q .non (upd H l (.lst vs'))) → r (.ref l) ws H Q
def appG : List D → List D → Res (List D)
  | xs, [d] => if xs.length < sizeLine then .ok (xs ++ [d]) else .bad
  | _, _ => .bad
theorem lw_append : LstW T X "list.append" appG := by
  refine ⟨_, mt_append, fun σ H Av l xs ds vs ws Q hl r1 r2 o => ?_⟩
  match ds, o with
  | [d], o =>
    obtain ⟨hz, f⟩ := o.if
    obtain ⟨v, vr, rfl, r3, r4⟩ := r2
    have r4 : vr = [] := r4
    subst r4
    exact ⟨l, vs, v, rfl, rfl, hl, by rw [r1.length]; exact hz, f _ (r1.append ⟨v, [], rfl, r3, rfl⟩)⟩
def insG : List D → List D → Res (List D)
  | xs, [.int i, d] => if xs.length < sizeLine ∧ 0 ≤ i ∧ i < 2 ^ 63 then .ok (xs.take i.toNat ++ [d] ++ xs.drop i.toNat) else .bad
  | _, _ => .bad
theorem lw_insert : LstW T X "list.insert" insG := by
  refine ⟨_, mt_insert, fun σ H Av l xs ds vs ws Q hl r1 r2 o => ?_⟩
  match ds, o with
  | [.int i, d], o =>
    obtain ⟨⟨hz, h0, h1⟩, f⟩ := o.if
    obtain ⟨v, vr, rfl, r3, w, vr', rfl, r4, r5⟩ := r2
    have r5 : vr' = [] := r5
    have r3 : v = V.int i := r3
    subst r5 r3
    exact ⟨l, vs, i, w, rfl, rfl, hl, by rw [r1.length]; exact hz, h0, h1, f _ (((r1.take _).append (RepL.cons r4 (RepL.nil_iff.mpr rfl))).append (r1.drop _))⟩
def extG : List D → List D → Res (List D)
  | xs, [.lst ys] => if xs.length + ys.length ≤ sizeLine then .ok (xs ++ ys) else .bad
  | _, _ => .bad
theorem lm_extend : LstM T X "list.extend" extG := by
  refine ⟨_, mt_extend, fun σ H Av l xs ds vs ws Q hl r1 r2 o => ?_⟩
  match ds, o with
  | [.lst ys], o =>
    obtain ⟨hz, f⟩ := o.if
    obtain ⟨v, rfl, b, zs, rfl, hb, r3⟩ := paired1 r2
    exact ⟨l, b, vs, zs, rfl, rfl, hl, hb, by rw [r1.length, r3.length]; exact hz, f _ (r1.append r3)⟩
/-- the list in slot i changed by g -/
def mLm (i : Nat) (g : List D → List D → Res (List D)) (ms : Env → Res (List D)) : Env → Flow := fun ρ => match ρ[i]? with
  | some (.v (.ol xs)) => bindF (ms ρ) ρ fun ds => bindF (g xs ds) ρ fun ys => .nx (ρ.set i (.v (.ol ys)))
  | _ => .bad
theorem ms_lw (i : Nat) {mid : String} {nm : Str} {p2 : Pos} {g : List D → List D → Res (List D)} {ms : Env → Res (List D)} (hM : LstW T X mid g) (ha : ML T Fb X es ms) (hN : X.N[i]? = some x := by rfl) (hv : Vis X.env.scope x := by first | exact Or.inl rfl | exact Or.inr (Or.inl rfl) | exact Or.inr (Or.inr rfl))
    (hd : (x == ("__debug__" : Str)) = false := by decide) (hcd : (x == ("__classdict__" : Str)) = false := by decide)
    (hs : swapsWith (.Call (.Attribute (.Name x p2) nm apos) es [] p) none pos.line X.env = pure false := by rfl)
    (hpe : ∀ {r : V → List V → Hp → VK → Prop} {to : TE} {t : TA}, MtR X mid r → PE X (.Name x p2) to → PA X es t → PE X (.Call (.Attribute (.Name x p2) nm apos) es [] p) (tBM X.K "list" r to t)) :
    MS T Fb X (.Expr (.Call (.Attribute (.Name x p2) nm apos) es [] p) pos) (mLm i g ms) := by
  obtain ⟨r, hr, f⟩ := hM.ex
  refine ⟨fun σ H F ρ De S o => (ps_expr (hpe hr (pe_var hN hv hd hcd) pa_tw) hs).tw ?_⟩
  unfold mLm at o
  split at o
  · rename_i xs e
    obtain ⟨a, vs, e1, h1, h2, _, _⟩ := S.chgO e
    refine ⟨_, e1, .inl ⟨rfl, vs, SqL.of h1⟩, ?_⟩
    refine ha.run σ H F ρ _ S ((OutS.toOut S o).imp fun ds _ o1 ws H1 s1 r1 => ?_)
    have S1 := S.same s1
    obtain ⟨a', vs', e1', h1', h2', _, k⟩ := S1.chgO e
    rw [e1] at e1'
    cases e1'
    refine f σ H1 (avo Fb F) a xs ds vs' ws _ h1' h2' r1 ((OutS.toOut S1 (o1.same s1)).imp fun ys _ o2 zs r3 => ?_)
    obtain ⟨p, S'⟩ := k r3
    exact o2 _ _ _ p S'
  · exact False.elim o
theorem ms_lm (i : Nat) {mid : String} {nm : Str} {p2 : Pos} {g : List D → List D → Res (List D)} {ms : Env → Res (List D)} (hM : LstM T X mid g) (ha : MLb T Fb X es ms) (hN : X.N[i]? = some x := by rfl) (hv : Vis X.env.scope x := by first | exact Or.inl rfl | exact Or.inr (Or.inl rfl) | exact Or.inr (Or.inr rfl))
    (hd : (x == ("__debug__" : Str)) = false := by decide) (hcd : (x == ("__classdict__" : Str)) = false := by decide)
    (hs : swapsWith (.Call (.Attribute (.Name x p2) nm apos) es [] p) none pos.line X.env = pure false := by rfl)
    (hpe : ∀ {r : V → List V → Hp → VK → Prop} {to : TE} {t : TA}, MtR X mid r → PE X (.Name x p2) to → PA X es t → PE X (.Call (.Attribute (.Name x p2) nm apos) es [] p) (tBM X.K "list" r to t)) :
    MS T Fb X (.Expr (.Call (.Attribute (.Name x p2) nm apos) es [] p) pos) (mLm i g ms) := by
  obtain ⟨r, hr, f⟩ := hM.ex
  refine ⟨fun σ H F ρ De S o => (ps_expr (hpe hr (pe_var hN hv hd hcd) pa_tw) hs).tw ?_⟩
  unfold mLm at o
  split at o
  · rename_i xs e
    obtain ⟨a, vs, e1, h1, h2, _, _⟩ := S.chgO e
    refine ⟨_, e1, .inl ⟨rfl, vs, SqL.of h1⟩, ?_⟩
    refine ha.run σ H F ρ _ S ((OutS.toOut S o).imp fun ds _ o1 ws H1 s1 r1 => ?_)
    have S1 := S.same s1
    obtain ⟨a', vs', e1', h1', h2', _, k⟩ := S1.chgO e
    rw [e1] at e1'
    cases e1'
    refine f σ H1 (avo Fb F) a xs ds vs' ws _ h1' h2' r1 ((OutS.toOut S1 (o1.same s1)).imp fun ys _ o2 zs r3 => ?_)
    obtain ⟨p, S'⟩ := k r3
    exact o2 _ _ _ p S'
  · exact False.elim o
/-- x[j] = e, x a list of one's own -/
def setG : List D → D → D → Res (List D)
  | xs, .int k, d => match ixN xs.length k with
    | some j => .ok (xs.set j d)
    | none => .bad
  | _, _, _ => .bad
def mSetIx (i : Nat) (mj me : Env → Res D) : Env → Flow := fun ρ => bindF (me ρ) ρ fun d => match ρ[i]? with
  | some (.v (.ol xs)) => bindF (mj ρ) ρ fun j => bindF (setG xs j d) ρ fun ys => .nx (ρ.set i (.v (.ol ys)))
  | _ => .bad
theorem ms_setIx (i : Nat) {p2 p3 : Pos} {mj : Env → Res D} (he : ME T Fb X e me) (hj : MB T Fb X b mj) (hN : X.N[i]? = some x := by rfl) (hv : Vis X.env.scope x := by first | exact Or.inl rfl | exact Or.inr (Or.inl rfl) | exact Or.inr (Or.inr rfl))
    (hd : (x == ("__debug__" : Str)) = false := by decide) (hcd : (x == ("__classdict__" : Str)) = false := by decide)
    (ha : ∀ v, assign (.Subscript (.Name x p2) b p3) X.env v = (do
      let ov ← holding [v] (eval (.Name x p2) X.env)
      let iv ← holding [v, ov] (eval b X.env)
      standAt p3
      holding [v, ov, iv] (setItem ov iv v)
      release [v, ov, iv] []) := by intro _; rfl)
    (hs : swapsWithSole [.Subscript (.Name x p2) b p3] e pos.line X.env = pure false := by rfl) (hw : swappedStores [.Subscript (.Name x p2) b p3] e X.env = pure none := by rfl)
    (h1 : (assignEach [.Subscript (.Name x p2) b p3] X.env).map (·.2) = [assign (.Subscript (.Name x p2) b p3) X.env] := by rfl) : MS T Fb X (.Assign [.Subscript (.Name x p2) b p3] e pos) (mSetIx i mj me) := by
  refine ⟨fun σ H F ρ De S o => (ps_asg pe_tw (pg_sub (pe_var hN hv hd hcd) pe_tw set_list ha) hs hw h1).tw ?_⟩
  refine he.run σ H F ρ _ S ((OutS.toOut S o).imp fun d _ o1 v H1 s1 r1 => ?_)
  have S1 := S.same s1
  split at o1
  · rename_i xs e
    obtain ⟨a, vs, e1, h1, h2, _, _⟩ := S1.chgO e
    refine ⟨_, e1, ?_⟩
    refine hj.run σ H1 F ρ _ S1 ((OutS.toOut S1 (o1.same s1)).imp fun j _ o2 u H2 s2 r2 => ?_)
    have S2 := S1.same s2
    obtain ⟨a', vs', e1', h1', h2', _, k⟩ := S2.chgO e
    rw [e1] at e1'
    cases e1'
    have o3 := OutS.toOut S2 (o2.same s2)
    cases j with
    | int kk =>
      have r2 : u = V.int kk := r2
      have o3 : Out X T σ H2 (match ixN xs.length kk with
        | some j => Res.ok (xs.set j d)
        | none => .bad) _ := o3
      cases q : ixN xs.length kk with
      | none => rw [q] at o3; exact False.elim o3
      | some j =>
        rw [q] at o3
        refine ⟨a, vs', kk, j, rfl, r2, h1', by rw [h2'.length]; exact q, ?_⟩
        obtain ⟨p, S'⟩ := k (h2'.set j (r1.same s2))
        exact o3 _ _ _ p S'
    | _ => exact False.elim o3
  · exact False.elim o1
end
end Cr
/-! Core, part 8: targets, for, while. -/
namespace Cr
open PySem PySem.Spec PyProof.Rows L2
def Only (vs : List Nat) (σ σ' : L2.St) : Prop := σ'.length = σ.length ∧ ∀ j, j ∉ vs → σ'[j]? = σ[j]?
theorem Only.refl (vs : List Nat) (σ : L2.St) : Only vs σ σ := ⟨rfl, fun _ _ => rfl⟩
theorem Only.trans {vs : List Nat} {σ σ1 σ2 : L2.St} (a : Only vs σ σ1) (b : Only vs σ1 σ2) : Only vs σ σ2 := ⟨b.1.trans a.1, fun j h => (b.2 j h).trans (a.2 j h)⟩
theorem Only.set {vs : List Nat} {i : Nat} (h : i ∈ vs) (σ : L2.St) (o : Option V) : Only vs σ (σ.set i o) := ⟨List.length_set, fun j hj => List.getElem?_set_ne fun z => hj (by rw [← z]; exact h)⟩
def TWg (X : Cx) (tg : Expr) : TG := fun v σ H Q => ∀ (pins : List (Addr × Obj)) (s : Shared) (u : Value), Inv X pins σ H s → RelV v u → wpAny (model X.prog X.w) X.A (assign tg X.env u) (fun _ s' => ∃ σ' H', Inv X pins σ' H' s' ∧ Q σ' H') X.xe s
def TWgs (X : Cx) (ts : List Expr) : TGs := fun vs σ H Q => ∀ (pins : List (Addr × Obj)) (s : Shared) (us : List Value), Inv X pins σ H s → Vals vs us → wpAny (model X.prog X.w) X.A (assignInOrder ((assignEach ts X.env).map (·.2)) us) (fun _ s' => ∃ σ' H', Inv X pins σ' H' s' ∧ Q σ' H') X.xe s
theorem pg_tw {X : Cx} {tg : Expr} : PG X tg (TWg X tg) := ⟨fun pins s σ H v u Q I r h => h pins s u I r⟩
theorem pgs_tw {X : Cx} {ts : List Expr} : PGs X ts (TWgs X ts) := ⟨fun pins s σ H vs us Q I r h => h pins s us I r⟩
theorem _root_.L2.PG.tw {X : Cx} {tg : Expr} {t : TG} {v : V} {σ : L2.St} {H : Hp} {Q : L2.St → Hp → Prop} (h : PG X tg t) (q : t v σ H Q) : TWg X tg v σ H Q := fun pins s u I r => h.run pins s σ H v u Q I r q
theorem _root_.L2.PGs.tw {X : Cx} {ts : List Expr} {t : TGs} {vs : List V} {σ : L2.St} {H : Hp} {Q : L2.St → Hp → Prop} (h : PGs X ts t) (q : t vs σ H Q) : TWgs X ts vs σ H Q := fun pins s us I r => h.run pins s σ H vs us Q I r q
section
variable (T : CT) (Fb : Gh) (X : Cx)
structure MG (tg : Expr) (vs : List Nat) (g : D → Env → Option Env) : Prop where
  run : ∀ (σ : L2.St) (H : Hp) (F : List Addr) (ρ ρ' : Env) (d : D) (v : V) (Q : L2.St → Hp → Prop), StR (gx X T) Fb H σ ρ F → Rep (gx X T) H (avo Fb F) d v → g d ρ = some ρ' →
    (∀ σ', Only vs σ σ' → StR (gx X T) Fb H σ' ρ' F → Q σ' H) → TWg X tg v σ H Q
structure MGs (ts : List Expr) (vs : List Nat) (g : List D → Env → Option Env) : Prop where
  run : ∀ (σ : L2.St) (H : Hp) (F : List Addr) (ρ ρ' : Env) (ds : List D) (ws : List V) (Q : L2.St → Hp → Prop), StR (gx X T) Fb H σ ρ F → RepL (gx X T) H (avo Fb F) ds ws → g ds ρ = some ρ' →
    (∀ σ', Only vs σ σ' → StR (gx X T) Fb H σ' ρ' F → Q σ' H) → TWgs X ts ws σ H Q
end
section
variable {T : CT} {Fb : Gh} {X : Cx} {e a b c o : Expr} {es : List Expr} {st : Stmt} {rest : List Stmt} {me ma : Env → Res D} {m m' : Env → Flow} {pos p apos : Pos} {x : Str} {k n : Nat} {vs : List Nat}
def gN (i : Nat) : D → Env → Option Env := fun d ρ => if okS ρ i = true then some (ρ.set i (.v (.d d))) else none
def gS0 : List D → Env → Option Env := fun ds ρ => match ds with
  | [] => some ρ
  | _ => none
def gSc (g : D → Env → Option Env) (gs : List D → Env → Option Env) : List D → Env → Option Env := fun ds ρ => match ds with
  | [] => none
  | d :: ds => match g d ρ with
    | some ρ1 => gs ds ρ1
    | none => none
def gT (gs : List D → Env → Option Env) : D → Env → Option Env := fun d ρ => match d with
  | .tup xs => gs xs ρ
  | _ => none
def gL (gs : List D → Env → Option Env) : D → Env → Option Env := fun d ρ => match d with
  | .lst xs => gs xs ρ
  | _ => none
theorem mg_name (i : Nat) (hN : X.N.Nodup) (hm : i ∈ vs := by decide) (hi : X.N[i]? = some x := by rfl) (hx : Loc X.env.scope x := by first | exact Or.inl rfl | exact Or.inr rfl)
    (hf : X.fn x = true ∨ X.env.scope.names.lookup x = some .local := by first | exact .inl rfl | exact .inr rfl | assumption) : MG T Fb X (.Name x pos) vs (gN i) := by
  refine ⟨fun σ H F ρ ρ' d v Q S r e h => (pg_name hN hi hx hf).tw ?_⟩
  unfold gN at e
  by_cases hl : okS ρ i = true
  · rw [if_pos hl] at e
    cases e
    exact h _ (Only.set hm σ _) (S.setD hl r)
  · rw [if_neg hl] at e; cases e
theorem mgs_nil : MGs T Fb X [] vs gS0 := by
  refine ⟨fun σ H F ρ ρ' ds ws Q S r e h => pgs_nil.tw ?_⟩
  cases ds with
  | nil =>
    cases e
    exact ⟨r, h σ (Only.refl vs σ) S⟩
  | cons d ds => cases e
theorem mgs_cons {g : D → Env → Option Env} {gs : List D → Env → Option Env} (h1 : MG T Fb X e vs g) (h2 : MGs T Fb X es vs gs) (hs : (assignEach (e :: es) X.env).map (·.2) = assign e X.env :: (assignEach es X.env).map (·.2) := by rfl) : MGs T Fb X (e :: es) vs (gSc g gs) := by
  refine ⟨fun σ H F ρ ρ' ds ws Q S r eq h => (pgs_cons pg_tw pgs_tw hs).tw ?_⟩
  cases ds with
  | nil => cases eq
  | cons d ds =>
    obtain ⟨v, vr, rfl, r1, r2⟩ := r
    refine ⟨v, vr, rfl, ?_⟩
    have eq : (match g d ρ with
      | some ρ1 => gs ds ρ1
      | none => none) = some ρ' := eq
    cases q : g d ρ with
    | none => rw [q] at eq; cases eq
    | some ρ1 =>
      rw [q] at eq
      exact h1.run σ H F ρ ρ1 d v _ S r1 q fun σ1 on1 S1 => h2.run σ1 H F ρ1 ρ' ds vr _ S1 r2 eq fun σ2 on2 S2 => h σ2 (on1.trans on2) S2
theorem RepL.of_len {G : Gx} {H : Hp} {Av : Addr → Prop} {ds : List D} {vs : List V} (r : RepL G H Av ds vs) {n : Nat} (h : ds.length = n) : vs.length = n := by rw [r.length, h]
theorem mg_tup {j : Nat} {gs : List D → Env → Option Env} (hc : X.calm = true) (h : MGs T Fb X es vs gs) (hlen : ∀ ds ρ ρ', gs ds ρ = some ρ' → ds.length = n) (hn : (assignEach es X.env).length = n := by rfl) (hst : (assignEach es X.env).findIdx? (·.1) = none := by rfl) :
    MG T Fb X (.Tuple es j pos) vs (gT gs) := by
  refine ⟨fun σ H F ρ ρ' d v Q S r eq hQ => (pg_tup hc pgs_tw hn hst).tw ?_⟩
  cases d with
  | tup xs =>
    obtain ⟨a, ws, rfl, h1, h2⟩ := r
    exact ⟨a, ws, rfl, tup_sq h1, h2.of_len (hlen _ _ _ eq), h.run σ H F ρ ρ' xs ws Q S h2 eq hQ⟩
  | _ => cases eq
theorem mg_lst {j : Nat} {gs : List D → Env → Option Env} (hc : X.calm = true) (h : MGs T Fb X es vs gs) (hlen : ∀ ds ρ ρ', gs ds ρ = some ρ' → ds.length = n) (hn : (assignEach es X.env).length = n := by rfl) (hst : (assignEach es X.env).findIdx? (·.1) = none := by rfl) :
    MG T Fb X (.Tuple es j pos) vs (gL gs) := by
  refine ⟨fun σ H F ρ ρ' d v Q S r eq hQ => (pg_lst hc pgs_tw hn hst).tw ?_⟩
  cases d with
  | lst xs =>
    obtain ⟨a, ws, rfl, h1, h2⟩ := r
    exact ⟨a, ws, rfl, SqL.of h1.1, h2.of_len (hlen _ _ _ eq), h.run σ H F ρ ρ' xs ws Q S h2 eq hQ⟩
  | _ => cases eq
theorem glen_nil : ∀ ds ρ ρ', gS0 ds ρ = some ρ' → ds.length = 0 := fun ds ρ ρ' h => by
  cases ds with
  | nil => rfl
  | cons _ _ => cases h
theorem glen_cons {g : D → Env → Option Env} {gs : List D → Env → Option Env} (h : ∀ ds ρ ρ', gs ds ρ = some ρ' → ds.length = n) : ∀ ds ρ ρ', gSc g gs ds ρ = some ρ' → ds.length = n + 1 := fun ds ρ ρ' e => by
  cases ds with
  | nil => cases e
  | cons d ds =>
    have eq : (match g d ρ with
      | some ρ1 => gs ds ρ1
      | none => none) = some ρ' := e
    cases q : g d ρ with
    | none => rw [q] at eq; cases eq
    | some ρ1 => rw [q] at eq; rw [List.length_cons, h _ _ _ eq]
/-- target = e -/
def mAsg (g : D → Env → Option Env) (m : Env → Res D) : Env → Flow := fun ρ => bindF (m ρ) ρ fun d => match g d ρ with
  | some ρ' => .nx ρ'
  | none => .bad
theorem ms_asg {g : D → Env → Option Env} {tg : Expr} (he : ME T Fb X e me) (hg : MG T Fb X tg vs g) (hs : swapsWithSole [tg] e pos.line X.env = pure false := by rfl) (hw : swappedStores [tg] e X.env = pure none := by rfl)
    (h1 : (assignEach [tg] X.env).map (·.2) = [assign tg X.env] := by rfl) : MS T Fb X (.Assign [tg] e pos) (mAsg g me) := by
  refine ⟨fun σ H F ρ De S o => (ps_asg pe_tw pg_tw hs hw h1).tw ?_⟩
  refine he.run σ H F ρ _ S ((OutS.toOut S o).imp fun d _ o1 v H1 s1 r1 => ?_)
  cases q : g d ρ with
  | none =>
    have o1 : OutS X T Fb De H F (match g d ρ with
      | some ρ' => .nx ρ'
      | none => .bad) := o1
    rw [q] at o1; exact False.elim o1
  | some ρ' =>
    have o1 : OutS X T Fb De H F (match g d ρ with
      | some ρ' => .nx ρ'
      | none => .bad) := o1
    rw [q] at o1
    exact hg.run σ H1 F ρ ρ' d v _ (S.same s1) r1 q fun σ2 _ S2 => o1 _ _ _ (Post.of_same s1) S2
/-- a, b = x, y with plain local names -/
def mPar (i j : Nat) (ms : Env → Res (List D)) : Env → Flow := fun ρ => bindF (ms ρ) ρ fun ds => match ds with
  | [d, d2] => if okS ρ i = true ∧ okS (ρ.set i (.v (.d d))) j = true then .nx ((ρ.set i (.v (.d d))).set j (.v (.d d2))) else .bad
  | _ => .bad
theorem ms_par (i j : Nat) {y : Str} {px py pt : Pos} {kt k2 : Nat} {pt2 : Pos} {ms : Env → Res (List D)} (hc : X.calm = true) (hN : X.N.Nodup) (ha : ML T Fb X [a, b] ms) (hi : X.N[i]? = some x := by rfl) (hj : X.N[j]? = some y := by rfl) (hij : i ≠ j := by decide)
    (hx : X.env.scope.names.lookup x = some .local := by rfl) (hy : X.env.scope.names.lookup y = some .local := by rfl)
    (hw : swappedStores [.Tuple [.Name x px, .Name y py] kt pt] (.Tuple [a, b] k2 pt2) X.env = pure (some [x, y]) := by rfl)
    (hs : swapsWithSole [.Tuple [.Name x px, .Name y py] kt pt] (.Tuple [a, b] k2 pt2) pos.line X.env = pure false := by rfl) : MS T Fb X (.Assign [.Tuple [.Name x px, .Name y py] kt pt] (.Tuple [a, b] k2 pt2) pos) (mPar i j ms) := by
  refine ⟨fun σ H F ρ De S o => (ps_par hc hN hi hj hij hx hy pa_tw hw hs).tw ?_⟩
  refine ha.run σ H F ρ _ S ((OutS.toOut S o).imp fun ds _ o1 ws H1 s1 r1 => ?_)
  match ds, o1 with
  | [d, d2], o1 =>
    obtain ⟨⟨l1, l2⟩, o2⟩ := OutS.if o1
    obtain ⟨v, vr, rfl, r2, w, vr2, rfl, r3, r4⟩ := r1
    have r4 : vr2 = [] := r4
    subst r4
    refine ⟨v, w, rfl, ?_⟩
    exact o2 _ _ _ (Post.of_same s1) (((S.same s1).setD l1 r2).setD l2 r3)
/-- x op= e -/
theorem ms_aug (i : Nat) {op : Operator} {g : D → D → Res D} {p' : Pos} {mb : Env → Res D} (hN : X.N.Nodup) (ho : OpM T X (inplaceOp op) g) (hb : MB T Fb X e mb) (hi : X.N[i]? = some x := by rfl) (hx : Loc X.env.scope x := by first | exact Or.inl rfl | exact Or.inr rfl)
    (hf : X.fn x = true ∨ X.env.scope.names.lookup x = some .local := by first | exact .inl rfl | exact .inr rfl | assumption) : MS T Fb X (.AugAssign (.Name x p') op e pos) (mSet i (mBin g (mVar i) mb)) := by
  obtain ⟨r, hr, f⟩ := ho.ex
  refine ⟨fun σ H F ρ De S o => (ps_aug hN hi hx pe_tw (ti := r) (fun pins s σ H x y v u Q I r1 r2 h => hr pins s σ H x y v u Q I r1 r2 h) hf).tw ?_⟩
  have o1 := OutS.toOut S o
  have o2 := o1.bind
  unfold mVar at o2
  split at o2
  · rename_i d e1
    obtain ⟨o', p, e2, r1, _⟩ := S.slot e1
    obtain ⟨v, rfl, r1⟩ := r1
    refine ⟨v, e2, ?_⟩
    have o2 : Out X T σ H (mb ρ >>= fun y => g d y) _ := o2
    refine hb.run σ H F ρ _ S (o2.bind.imp fun y _ o3 w H1 s1 r3 => ?_)
    refine f σ H1 (avo Fb F) d y v w _ (S.same s1).av (r1.2.same s1).b r3 ((o3.same s1).imp fun z _ o4 u H2 s2 r4 => ?_)
    obtain ⟨hl, o5⟩ := OutS.put o4
    exact o5 _ _ F (Post.of_same (s1.trans s2)) (((S.same s1).same s2).setD hl r4)
  · exact False.elim o2
end
end Cr
/-! Core, part 9: what is walked; for, while, comprehensions. -/
namespace Cr
open PySem PySem.Spec PyProof.Rows L2
structure ItOk (G : Gx) (J : It) (xs : List D) (P : Hp → (Addr → Prop) → Prop) : Prop where
  same : ∀ {H H' : Hp} {Av : Addr → Prop}, P H Av → Same H H' → P H' Av
  new : ∀ {H : Hp} {Av : Addr → Prop} {p : Addr} {o : HO}, P H Av → H p = none → P (upd H p o) (fun a => a = p ∨ Av a)
  go : ∀ {H : Hp} {Av : Addr → Prop} {i : Nat}, P H Av → i < xs.length → J.go i H
  stop : ∀ {H : Hp} {Av : Addr → Prop} {i : Nat}, P H Av → xs.length ≤ i → J.stop i H
  yld : ∀ {H : Hp} {Av : Addr → Prop} {i : Nat} {x : V} {H' : Hp} {d : D}, P H Av → (∀ a, Av a → H a ≠ none) → xs[i]? = some d → J.yld i H x H' → Same H H' ∧ Rep G H' Av d x
def ItFz (P : Hp → (Addr → Prop) → Prop) : Prop := ∀ {H H' : Hp} {Av Av' : Addr → Prop}, P H Av → Kept H H' Av Av' → P H' Av'
section
variable (T : CT) (Fb : Gh) (X : Cx)
/-- what a for walks: it stands whatever the body does to its own -/
structure MI (tg iter : Expr) (m : Env → Res (List D)) : Prop where
  ex : ∃ wi : TI, PI X tg iter wi ∧ ∀ (σ : L2.St) (H : Hp) (F : List Addr) (ρ : Env) (R : It → Hp → Prop), StR (gx X T) Fb H σ ρ F →
    Out X T σ H (m ρ) (fun xs => ∀ J H' P, Same H H' → ItOk (gx X T) J xs P → ItFz P → P H' (avo Fb F) → R J H') → wi σ H R
/-- what a comprehension walks -/
structure MIb (tg iter : Expr) (m : Env → Res (List D)) : Prop where
  ex : ∃ wi : TI, PI X tg iter wi ∧ ∀ (σ : L2.St) (H : Hp) (F : List Addr) (ρ : Env) (R : It → Hp → Prop), StR (gx X T) Fb H σ ρ F →
    Out X T σ H (m ρ) (fun xs => ∀ J H' P, Same H H' → ItOk (gx X T) J xs P → P H' (avo Fb F) → R J H') → wi σ H R
end
theorem MI.b {T : CT} {Fb : Gh} {X : Cx} {tg iter : Expr} {m : Env → Res (List D)} (h : MI T Fb X tg iter m) : MIb T Fb X tg iter m := by
  obtain ⟨wi, hp, f⟩ := h.ex
  exact ⟨wi, hp, fun σ H F ρ R S o => f σ H F ρ R S (o.imp fun xs _ g J H' P s i _ p => g J H' P s i p)⟩
section
variable {G : Gx}
theorem SqL.val {K : PySem.W.Frag} {H : Hp} {a : Addr} {xs : List V} (h : H a = some (.lst xs)) : SqL K H a xs := SqL.of h
theorem it_lst {a : Addr} {xs : List D} : ItOk G (Itl G.K a) xs (fun H Av => ∃ vs, H a = some (.lst vs) ∧ RepL G H Av xs vs) where
  same := fun ⟨vs, h1, h2⟩ s => ⟨vs, s _ _ h1, h2.same s⟩
  new := fun ⟨vs, h1, h2⟩ hp => ⟨vs, by rw [upd_ne (ne_of_none h1 hp)]; exact h1, h2.new hp⟩
  go := fun {H Av i} ⟨vs, h1, h2⟩ hi => ⟨vs, vs[i]'(by rw [h2.length]; exact hi), SqL.of h1, by simp⟩
  stop := fun ⟨vs, h1, h2⟩ hi => ⟨vs, SqL.of h1, by rw [h2.length]; exact hi⟩
  yld := fun {H Av i x H' d} ⟨vs, h1, h2⟩ _ e y => by
    obtain ⟨e1, y⟩ := y
    obtain ⟨v, e2, r⟩ := h2.get e
    have e3 := y vs (SqL.of h1)
    rw [e2] at e3
    cases e3
    rw [e1]
    exact ⟨Same.refl H, r⟩
theorem it_tup {a : Addr} {xs : List D} : ItOk G (Itt G.K a) xs (fun H Av => ∃ vs, ((H a = some (.tup vs) ∧ ¬ Av a) ∨ KTup G.K a vs) ∧ RepL G H Av xs vs) where
  same := fun ⟨vs, h1, h2⟩ s => ⟨vs, h1.elim (fun q => .inl ⟨s _ _ q.1, q.2⟩) .inr, h2.same s⟩
  new := fun ⟨vs, h1, h2⟩ hp => ⟨vs, h1.elim (fun q => .inl ⟨by rw [upd_ne (ne_of_none q.1 hp)]; exact q.1, fun z => z.elim (ne_of_none q.1 hp) q.2⟩) .inr, h2.new hp⟩
  go := fun {H Av i} ⟨vs, h1, h2⟩ hi => ⟨vs, vs[i]'(by rw [h2.length]; exact hi), tup_sq h1, by simp⟩
  stop := fun ⟨vs, h1, h2⟩ hi => ⟨vs, tup_sq h1, by rw [h2.length]; exact hi⟩
  yld := fun {H Av i x H' d} ⟨vs, h1, h2⟩ _ e y => by
    obtain ⟨e1, y⟩ := y
    obtain ⟨v, e2, r⟩ := h2.get e
    have e3 := y vs (tup_sq h1)
    rw [e2] at e3
    cases e3
    rw [e1]
    exact ⟨Same.refl H, r⟩
def rangeD (lo c : Int) (n : Nat) : List D := (List.range n).map fun (i : Nat) => D.int (lo + (i : Int) * c)
theorem it_rng {lo c : Int} {n : Nat} : ItOk G (Itc lo c n) (rangeD lo c n) (fun _ _ => True) where
  same := fun _ _ => True.intro
  new := fun _ _ => True.intro
  go := fun {H Av i} _ hi => by
    have : (rangeD lo c n).length = n := by unfold rangeD; simp
    rw [this] at hi; exact hi
  stop := fun {H Av i} _ hi => by
    have : (rangeD lo c n).length = n := by unfold rangeD; simp
    rw [this] at hi; exact hi
  yld := fun {H Av i x H' d} _ _ e y => by
    obtain ⟨e1, e2⟩ := y
    rw [e1, e2]
    unfold rangeD at e
    rw [List.getElem?_map] at e
    cases q : (List.range n)[i]? with
    | none => rw [q] at e; cases e
    | some j =>
      rw [q] at e; cases e
      have : j = i := by
        rw [List.getElem?_range] at q
        · cases q; rfl
        · obtain ⟨h, _⟩ := List.getElem?_eq_some_iff.mp q
          simpa using h
      rw [this]
      exact ⟨Same.refl H, rfl⟩
theorem it_rng1 {lo : Int} {n : Nat} : ItOk G (Itr lo n) (rangeD lo 1 n) (fun _ _ => True) where
  same := fun _ _ => True.intro
  new := fun _ _ => True.intro
  go := fun {H Av i} h hi => (it_rng (G := G) (lo := lo) (c := 1) (n := n)).go (H := H) (Av := Av) h hi
  stop := fun {H Av i} h hi => (it_rng (G := G) (lo := lo) (c := 1) (n := n)).stop (H := H) (Av := Av) h hi
  yld := fun {H Av i x H' d} h hav e y => (it_rng (G := G) (lo := lo) (c := 1) (n := n)).yld h hav e ⟨y.1, by rw [Int.mul_one]; exact y.2⟩
def zipD (xs ys : List D) : List D := List.zipWith (fun a b => .tup [a, b]) xs ys
theorem it_zip {a b : Addr} {xs ys : List D} : ItOk G (Itz G.K a b) (zipD xs ys) (fun H Av => ∃ vs ws, H a = some (.lst vs) ∧ H b = some (.lst ws) ∧ RepL G H Av xs vs ∧ RepL G H Av ys ws) where
  same := fun ⟨vs, ws, h1, h2, h3, h4⟩ s => ⟨vs, ws, s _ _ h1, s _ _ h2, h3.same s, h4.same s⟩
  new := fun ⟨vs, ws, h1, h2, h3, h4⟩ hp => ⟨vs, ws, by rw [upd_ne (ne_of_none h1 hp)]; exact h1, by rw [upd_ne (ne_of_none h2 hp)]; exact h2, h3.new hp, h4.new hp⟩
  go := fun {H Av i} ⟨vs, ws, h1, h2, h3, h4⟩ hi => by
    unfold zipD at hi
    rw [List.length_zipWith] at hi
    have l1 : i < vs.length := by rw [h3.length]; omega
    have l2 : i < ws.length := by rw [h4.length]; omega
    exact ⟨vs, ws, vs[i], ws[i], SqL.of h1, SqL.of h2, by simp, by simp⟩
  stop := fun {H Av i} ⟨vs, ws, h1, h2, h3, h4⟩ hi => by
    unfold zipD at hi
    rw [List.length_zipWith] at hi
    refine ⟨vs, ws, SqL.of h1, SqL.of h2, ?_⟩
    rw [h3.length, h4.length]
    omega
  yld := fun {H Av i x H' d} ⟨vs, ws, h1, h2, h3, h4⟩ hav e y => by
    obtain ⟨t, u, v, rfl, ht, rfl, y1, y2⟩ := y
    unfold zipD at e
    rw [List.getElem?_zipWith] at e
    cases q1 : xs[i]? with
    | none => rw [q1] at e; cases e
    | some d1 =>
      cases q2 : ys[i]? with
      | none => rw [q1, q2] at e; cases e
      | some d2 =>
        rw [q1, q2] at e
        cases e
        obtain ⟨v1, e1, r1⟩ := h3.get q1
        obtain ⟨v2, e2, r2⟩ := h4.get q2
        have e3 := y1 vs (SqL.of h1)
        have e4 := y2 ws (SqL.of h2)
        rw [e1] at e3
        rw [e2] at e4
        cases e3
        cases e4
        have s := same_upd (o := .tup [u, v]) ht
        exact ⟨s, t, [u, v], rfl, .inl ⟨upd_same, fun z => absurd ht (hav t z)⟩, u, [v], rfl, r1.same s, v, [], rfl, r2.same s, rfl⟩
end
section
variable {T : CT} {Fb : Gh} {X : Cx} {e a b c o tg iter elt : Expr} {es ifs : List Expr} {st : Stmt} {rest body : List Stmt} {me ma mb' : Env → Res D} {m m' mb : Env → Flow} {pos p apos : Pos} {x : Str} {k n : Nat} {vs : List Nat}
def lstOf : D → Res (List D)
  | .lst xs => .ok xs
  | _ => .bad
def tupOf : D → Res (List D)
  | .tup xs => .ok xs
  | _ => .bad
theorem mi_list (h : ME T Fb X e me) : MI T Fb X tg e (mUnF lstOf me) := by
  refine ⟨_, pi_list pe_tw, fun σ H F ρ R S o => ?_⟩
  refine h.run σ H F ρ _ S (o.bind.imp fun d _ o1 v H1 s r => ?_)
  cases d with
  | lst xs =>
    obtain ⟨a, vs, rfl, ⟨h1, na⟩, h2⟩ := r
    refine ⟨a, rfl, ⟨vs, SqL.of h1⟩, o1 _ H1 (fun H Av => ¬ Av a ∧ ∃ vs, H a = some (.lst vs) ∧ RepL (gx X T) H Av xs vs) s ?_ ?_ ⟨na, vs, h1, h2⟩⟩
    · exact ⟨fun p s => ⟨p.1, it_lst.same p.2 s⟩, fun {H Av q o} p hq => ⟨fun z => z.elim (fun e => by obtain ⟨vs, h1, _⟩ := p.2; exact ne_of_none h1 hq e) p.1, it_lst.new (G := gx X T) p.2 hq⟩, fun p hi => it_lst.go (G := gx X T) p.2 hi, fun p hi => it_lst.stop (G := gx X T) p.2 hi, fun p hav e y => it_lst.yld p.2 hav e y⟩
    · exact fun {H H' Av Av'} p k => by
        obtain ⟨na, vs, h1, h2⟩ := p
        exact ⟨k.no h1 na, vs, k.keep _ _ h1 na, RepL.mono k _ h2⟩
  | _ => exact False.elim o1
theorem mib_list (h : MB T Fb X e me) : MIb T Fb X tg e (mUnF lstOf me) := by
  refine ⟨_, pi_list pe_tw, fun σ H F ρ R S o => ?_⟩
  refine h.run σ H F ρ _ S (o.bind.imp fun d _ o1 v H1 s r => ?_)
  cases d with
  | lst xs =>
    obtain ⟨a, vs, rfl, h1, h2⟩ := r
    exact ⟨a, rfl, ⟨vs, SqL.of h1⟩, o1 _ H1 _ s it_lst ⟨vs, h1, h2⟩⟩
  | _ => exact False.elim o1
theorem mi_tup (h : ME T Fb X e me) : MI T Fb X tg e (mUnF tupOf me) := by
  refine ⟨_, pi_tup pe_tw, fun σ H F ρ R S o => ?_⟩
  refine h.run σ H F ρ _ S (o.bind.imp fun d _ o1 v H1 s r => ?_)
  cases d with
  | tup xs =>
    obtain ⟨a, vs, rfl, h1, h2⟩ := r
    refine ⟨a, rfl, ⟨vs, tup_sq h1⟩, o1 _ H1 _ s it_tup ?_ ⟨vs, h1, h2⟩⟩
    exact fun {H H' Av Av'} p k => by
      obtain ⟨vs, h1, h2⟩ := p
      exact ⟨vs, h1.elim (fun q => .inl ⟨k.keep _ _ q.1 q.2, k.no q.1 q.2⟩) .inr, RepL.mono k _ h2⟩
  | _ => exact False.elim o1
theorem fz_true : ItFz (fun _ _ => True) := fun _ _ => True.intro
def rng1 : List D → Res (List D)
  | [.int n] => if -(2 ^ 62) ≤ n ∧ n < 2 ^ 62 then .ok (rangeD 0 1 n.toNat) else .bad
  | _ => .bad
def rng2 : List D → Res (List D)
  | [.int lo, .int hi] => if -(2 ^ 62) ≤ lo ∧ lo < 2 ^ 62 ∧ -(2 ^ 62) ≤ hi ∧ hi < 2 ^ 62 then .ok (rangeD lo 1 (hi - lo).toNat) else .bad
  | _ => .bad
/-- range(a, b, -1) -/
def rng3 : List D → Res (List D)
  | [.int lo, .int hi, .int c] => if c = -1 ∧ -(2 ^ 62) ≤ lo ∧ lo < 2 ^ 62 ∧ -(2 ^ 62) ≤ hi ∧ hi < 2 ^ 62 then .ok (rangeD lo (-1) (lo - hi).toNat) else .bad
  | _ => .bad
theorem mi_range1 {ms : Env → Res (List D)} (hm : X.mg "range" = none) (ha : ML T Fb X [a] ms) (hg : Gl X "range" := by rfl) (hs : starEach [a] X.env = [(false, eval a X.env)] := by rfl) : MI T Fb X tg (.Call (.Name "range" p) [a] [] pos) (mArg rng1 ms) := by
  refine ⟨_, pi_range1 hg hm pa_tw hs, fun σ H F ρ R S o => ?_⟩
  refine ha.run σ H F ρ _ S (o.bind.imp fun ds _ o1 ws H1 s r => ?_)
  match ds, o1 with
  | [.int n], o1 =>
    obtain ⟨⟨h1, h2⟩, f⟩ := o1.if
    obtain ⟨v, vr, rfl, r1, r2⟩ := r
    have r1 : v = V.int n := r1
    have r2 : vr = [] := r2
    subst r1 r2
    exact ⟨n, rfl, h1, h2, f _ _ _ s it_rng1 fz_true True.intro⟩
theorem mi_range2 {ms : Env → Res (List D)} (hm : X.mg "range" = none) (ha : ML T Fb X [a, b] ms) (hg : Gl X "range" := by rfl) (hs : starEach [a, b] X.env = [(false, eval a X.env), (false, eval b X.env)] := by rfl) (hs2 : starEach [b] X.env = [(false, eval b X.env)] := by rfl) :
    MI T Fb X tg (.Call (.Name "range" p) [a, b] [] pos) (mArg rng2 ms) := by
  refine ⟨_, pi_range2 hg hm pa_tw hs hs2, fun σ H F ρ R S o => ?_⟩
  refine ha.run σ H F ρ _ S (o.bind.imp fun ds _ o1 ws H1 s r => ?_)
  match ds, o1 with
  | [.int lo, .int hi], o1 =>
    obtain ⟨hc, f⟩ := o1.if
    obtain ⟨v, vr, rfl, r1, w, vr2, rfl, r2, r3⟩ := r
    have r1 : v = V.int lo := r1
    have r2 : w = V.int hi := r2
    have r3 : vr2 = [] := r3
    subst r1 r2 r3
    exact ⟨lo, hi, rfl, hc, f _ _ _ s it_rng1 fz_true True.intro⟩
theorem mi_range3 {ms : Env → Res (List D)} (hm : X.mg "range" = none) (ha : ML T Fb X [a, b, c] ms) (hg : Gl X "range" := by rfl) (hs : starEach [a, b, c] X.env = (false, eval a X.env) :: starEach [b, c] X.env := by rfl) (hpl : (backTo pos (starEach [b, c] X.env)).any (·.1) = false := by rfl) :
    MI T Fb X tg (.Call (.Name "range" p) [a, b, c] [] pos) (mArg rng3 ms) := by
  refine ⟨_, pi_range3 hg hm pa_tw hs hpl, fun σ H F ρ R S o => ?_⟩
  refine ha.run σ H F ρ _ S (o.bind.imp fun ds _ o1 ws H1 s r => ?_)
  match ds, o1 with
  | [.int lo, .int hi, .int cc], o1 =>
    obtain ⟨⟨hc, h1, h2, h3, h4⟩, f⟩ := o1.if
    subst hc
    obtain ⟨v, vr, rfl, r1, w, vr2, rfl, r2, u, vr3, rfl, r3, r4⟩ := r
    have r1 : v = V.int lo := r1
    have r2 : w = V.int hi := r2
    have r3 : u = V.int (-1) := r3
    have r4 : vr3 = [] := r4
    subst r1 r2 r3 r4
    exact ⟨lo, hi, -1, _, rfl, RgC.neg h1 h2 h3 h4, f _ _ _ s it_rng fz_true True.intro⟩
def zipL : List D → Res (List D)
  | [.lst xs, .lst ys] => .ok (zipD xs ys)
  | _ => .bad
theorem mi_zip {elts : List Expr} {kk : Nat} {tpos : Pos} {ms : Env → Res (List D)} (hm : X.mg "zip" = none) (ha : ML T Fb X [a, b] ms) (hg : Gl X "zip" := by rfl)
    (hs : starEach [a, b] X.env = (false, eval a X.env) :: starEach [b] X.env := by rfl) (hpl : (backTo pos (starEach [b] X.env)).any (·.1) = false := by rfl) : MI T Fb X (.Tuple elts kk tpos) (.Call (.Name "zip" p) [a, b] [] pos) (mArg zipL ms) := by
  refine ⟨_, pi_zip hg hm pa_tw hs hpl, fun σ H F ρ R S o => ?_⟩
  refine ha.run σ H F ρ _ S (o.bind.imp fun ds _ o1 ws H1 s r => ?_)
  match ds, o1 with
  | [.lst xs, .lst ys], o1 =>
    obtain ⟨v, vr, rfl, ⟨p1, us, rfl, ⟨h1, n1⟩, r1⟩, w, vr2, rfl, ⟨p2, us2, rfl, ⟨h2, n2⟩, r2⟩, r3⟩ := r
    have r3 : vr2 = [] := r3
    subst r3
    refine ⟨p1, p2, us, us2, rfl, SqL.of h1, SqL.of h2, o1 _ H1 (fun H Av => (¬ Av p1 ∧ ¬ Av p2) ∧ ∃ vs ws, H p1 = some (.lst vs) ∧ H p2 = some (.lst ws) ∧ RepL (gx X T) H Av xs vs ∧ RepL (gx X T) H Av ys ws) s ?_ ?_ ⟨⟨n1, n2⟩, us, us2, h1, h2, r1, r2⟩⟩
    · exact ⟨fun p s => ⟨p.1, it_zip.same p.2 s⟩, fun {H Av q o} p hq => ⟨⟨fun z => z.elim (fun e => by obtain ⟨vs, ws, h1, _⟩ := p.2; exact ne_of_none h1 hq e) p.1.1, fun z => z.elim (fun e => by obtain ⟨vs, ws, _, h1, _⟩ := p.2; exact ne_of_none h1 hq e) p.1.2⟩, it_zip.new (G := gx X T) p.2 hq⟩, fun p hi => it_zip.go (G := gx X T) p.2 hi, fun p hi => it_zip.stop (G := gx X T) p.2 hi, fun p hav e y => it_zip.yld p.2 hav e y⟩
    · exact fun {H H' Av Av'} p k => by
        obtain ⟨⟨n1, n2⟩, vs, ws, h1, h2, h3, h4⟩ := p
        exact ⟨⟨k.no h1 n1, k.no h2 n2⟩, vs, ws, k.keep _ _ h1 n1, k.keep _ _ h2 n2, RepL.mono k _ h3, RepL.mono k _ h4⟩
/-! ### for -/
def forL (g : D → Env → Option Env) (mb : Env → Flow) : List D → Env → Flow
  | [], ρ => .nx ρ
  | x :: xs, ρ => match g x ρ with
    | none => .bad
    | some ρ1 => match mb ρ1 with
      | .nx ρ2 => forL g mb xs ρ2
      | f => f
def mFor (mi : Env → Res (List D)) (g : D → Env → Option Env) (mb : Env → Flow) : Env → Flow := fun ρ => bindF (mi ρ) ρ fun xs => forL g mb xs ρ
theorem ms_for {mi : Env → Res (List D)} {g : D → Env → Option Env} (hp : PassesOwn (model X.prog X.w) X.A X.env X.xe) (hc : X.calm = true) (hi : MI T Fb X tg iter mi) (hg : MG T Fb X tg vs g) (hb : MSs T Fb X body mb) (hs : ∀ x, foldedSetIterable iter X.env x = pure x := by intro _; rfl) :
    MS T Fb X (.For tg iter body [] pos) (mFor mi g mb) := by
  obtain ⟨wi, hpi, f⟩ := hi.ex
  refine ⟨fun σ H F ρ De S o => (ps_for hp hc hpi pg_tw pss_tw hs).tw ?_⟩
  refine f σ H F ρ _ S ((OutS.toOut S o).imp fun xs _ o1 J H1 P s1 it fz hp1 => ?_)
  refine ⟨fun i m σ' H' => m = xs.length - i ∧ i ≤ xs.length ∧ ∃ ρi Fi, StR (gx X T) Fb H' σ' ρi Fi ∧ P H' (avo Fb Fi) ∧ OutS X T Fb De H' Fi (forL g mb (xs.drop i) ρi), ⟨xs.length, rfl, Nat.zero_le _, ρ, F, S.same s1, hp1, o1.same s1⟩, ?_⟩
  rintro i m σ' H' ⟨rfl, hi, ρi, Fi, Si, Pi, oi⟩
  by_cases hlt : i < xs.length
  · refine .inr ⟨it.go Pi hlt, fun σ'' H'' => ∃ ρj Fj, StR (gx X T) Fb H'' σ'' ρj Fj ∧ P H'' (avo Fb Fj) ∧ OutS X T Fb De H'' Fj (forL g mb (xs.drop (i + 1)) ρj), fun σ'' H'' q => ⟨xs.length - (i + 1), by omega, rfl, hlt, q⟩, fun x H2 y => ?_⟩
    rw [List.drop_eq_getElem_cons hlt] at oi
    obtain ⟨s2, rx⟩ := it.yld Pi Si.av (List.getElem?_eq_getElem hlt) y
    have oi : OutS X T Fb De H' Fi (match g xs[i] ρi with
      | none => .bad
      | some ρ1 => match mb ρ1 with
        | .nx ρ2 => forL g mb (xs.drop (i + 1)) ρ2
        | f => f) := oi
    cases q : g xs[i] ρi with
    | none => rw [q] at oi; exact False.elim oi
    | some ρ1 =>
      rw [q] at oi
      have oi : OutS X T Fb De H' Fi (match mb ρ1 with
        | .nx ρ2 => forL g mb (xs.drop (i + 1)) ρ2
        | f => f) := oi
      refine hg.run σ' H2 Fi ρi ρ1 _ x _ (Si.same s2) rx q fun σ3 on S3 => ?_
      have p3 : Post H' Fi H2 Fi := Post.of_same s2
      refine hb.run σ3 H2 Fi ρ1 _ S3 ?_
      cases q2 : mb ρ1 with
      | nx ρ2 =>
        rw [q2] at oi
        exact fun σ4 H4 F4 p4 S4 => ⟨ρ2, F4, S4, fz Pi (p3.trans p4).kept, oi.post (p3.trans p4)⟩
      | rt d ρ2 => rw [q2] at oi; exact fun v σ4 H4 F4 p4 S4 r => oi v σ4 H4 F4 (p3.trans p4) S4 r
      | er z ρ2 =>
        rw [q2] at oi
        obtain ⟨W, tk, h⟩ := oi
        exact ⟨W, tk, fun cls d σ4 H4 F4 p4 S4 r => h cls d σ4 H4 F4 (p3.trans p4) S4 r⟩
      | bad => rw [q2] at oi; exact oi
  · have e : i = xs.length := by omega
    subst e
    rw [List.drop_length] at oi
    exact .inl ⟨it.stop Pi (Nat.le_refl _), oi σ' H' Fi Post.refl Si⟩
/-! ### while -/
def whileL (mc : Env → Res Bool) (mb : Env → Flow) : Nat → Env → Flow
  | 0, _ => .bad
  | n + 1, ρ => bindF (mc ρ) ρ fun k => match k with
    | true => match mb ρ with
      | .nx ρ' => whileL mc mb n ρ'
      | f => f
    | false => .nx ρ
theorem ms_while (n : Nat) {mc : Env → Res Bool} (hp : PassesOwn (model X.prog X.w) X.A X.env X.xe) (hc : MT T Fb X c mc) (hb : MSs T Fb X body mb) : MS T Fb X (.While c body [] pos) (whileL mc mb n) := by
  refine ⟨fun σ H F ρ De S o => (ps_while hp pt_tw pss_tw).tw ?_⟩
  refine ⟨fun m σ' H' => ∃ ρi Fi, StR (gx X T) Fb H' σ' ρi Fi ∧ OutS X T Fb De H' Fi (whileL mc mb m ρi), ⟨n, ρ, F, S, o⟩, ?_⟩
  rintro m σ' H' ⟨ρi, Fi, Si, oi⟩
  cases m with
  | zero => exact False.elim oi
  | succ m =>
    refine hc.run σ' H' Fi ρi _ Si ((OutS.toOut Si oi).imp fun k _ o1 H1 s1 => ?_)
    cases k with
    | false =>
      have o1 : OutS X T Fb De H' Fi (.nx ρi) := o1
      exact iteF (o1 σ' H1 Fi (Post.of_same s1) (Si.same s1))
    | true =>
      refine iteT ⟨fun σ'' H'' => ∃ ρj Fj, StR (gx X T) Fb H'' σ'' ρj Fj ∧ OutS X T Fb De H'' Fj (whileL mc mb m ρj), fun σ'' H'' q => ⟨m, Nat.lt_succ_self m, q⟩, ?_⟩
      have o1 : OutS X T Fb De H' Fi (match mb ρi with
        | .nx ρ' => whileL mc mb m ρ'
        | f => f) := o1
      have o2 := o1.same s1
      refine hb.run σ' H1 Fi ρi _ (Si.same s1) ?_
      cases q2 : mb ρi with
      | nx ρ2 => rw [q2] at o2; exact fun σ4 H4 F4 p4 S4 => ⟨ρ2, F4, S4, o2.post p4⟩
      | rt d ρ2 => rw [q2] at o2; exact o2
      | er z ρ2 => rw [q2] at o2; exact o2
      | bad => rw [q2] at o2; exact o2
end
end Cr
/-! Core, part 10: comprehensions. -/
namespace Cr
open PySem PySem.Spec PyProof.Rows L2
def TWts (X : Cx) (ifs : List Expr) : TT := fun σ H Q => ∀ (pins : List (Addr × Obj)) (s : Shared), Inv X pins σ H s →
    wpAny (model X.prog X.w) X.A (forIn ifs true fun c r => if r = true then do let ok ← isTrue c X.env (eval c X.env); pure (ForInStep.yield ok) else pure (ForInStep.yield r)) (TP X pins σ Q) X.xe s
structure MTs (T : CT) (Fb : Gh) (X : Cx) (ifs : List Expr) (m : Env → Res Bool) : Prop where
  run : ∀ (σ : L2.St) (H : Hp) (F : List Addr) (ρ : Env) (Q : Bool → Hp → Prop), StR (gx X T) Fb H σ ρ F →
    Out X T σ H (m ρ) (fun b => ∀ H', Same H H' → Q b H') → TWts X ifs σ H Q
def mYes : Env → Res Bool := fun _ => .ok true
section
variable {T : CT} {Fb : Gh} {X : Cx} {e a b c o tg iter elt : Expr} {es ifs : List Expr} {me : Env → Res D} {mt : Env → Res Bool} {pos p : Pos}
theorem mts_nil : MTs T Fb X [] mYes := ⟨fun σ H F ρ Q S o pins s I => pts_nil.run pins s σ H Q I (o H (Same.refl H))⟩
theorem mts_one (h : MT T Fb X c mt) : MTs T Fb X [c] mt := ⟨fun σ H F ρ Q S o pins s I => (pts_one pt_tw).run pins s σ H Q I (h.run σ H F ρ Q S o)⟩
end
/-- no error within -/
def nerr {α : Type} : Res α → Res α
  | .ok a => .ok a
  | _ => .bad
def compL (g : D → Env → Option Env) (mt : Env → Res Bool) (me : Env → Res D) (ρ : Env) : List D → Res (List D)
  | [] => .ok []
  | x :: xs => match g x ρ with
    | none => .bad
    | some ρ1 => nerr (mt ρ1) >>= fun b => match b with
      | true => nerr (me ρ1) >>= fun d => compL g mt me ρ xs >>= fun ds => .ok (d :: ds)
      | false => compL g mt me ρ xs
theorem compL_noerr {g : D → Env → Option Env} {mt : Env → Res Bool} {me : Env → Res D} {ρ : Env} : ∀ {xs : List D} {z : Exc}, compL g mt me ρ xs ≠ .err z
  | [], z, h => by cases h
  | x :: xs, z, h => by
    unfold compL at h
    split at h
    · cases h
    · rename_i ρ1 _
      cases q : mt ρ1 with
      | ok b =>
        rw [q] at h
        cases b with
        | true =>
          have h : (nerr (me ρ1) >>= fun d => compL g mt me ρ xs >>= fun ds => Res.ok (d :: ds)) = .err z := h
          cases q2 : me ρ1 with
          | ok d =>
            rw [q2] at h
            have h : (compL g mt me ρ xs >>= fun ds => Res.ok (d :: ds)) = .err z := h
            cases q3 : compL g mt me ρ xs with
            | ok ds => rw [q3] at h; cases h
            | err y => exact compL_noerr q3
            | bad => rw [q3] at h; cases h
          | err y => rw [q2] at h; cases h
          | bad => rw [q2] at h; cases h
        | false =>
          have h : compL g mt me ρ xs = .err z := h
          exact compL_noerr h
      | err y => rw [q] at h; cases h
      | bad => rw [q] at h; cases h
/-- the block's own names forgotten -/
def wipeE (ρ : Env) : List Nat → Env
  | [] => ρ
  | v :: vs => (wipeE ρ vs).set v .no
theorem StR.drop {G : Gx} {Fb : Gh} {H : Hp} {σ : L2.St} {ρ : Env} {F : List Addr} (S : StR G Fb H σ ρ F) : StR G ⟨Fb.fb, none⟩ H σ ρ F := ⟨S.ex, S.dom, S.fb, fun _ h => (nomatch h), S.tb⟩
theorem StR.wipe {G : Gx} {Fb : Gh} {H : Hp} {σ : L2.St} {ρ : Env} {F : List Addr} (hm : Fb.me = none) (S : StR G Fb H σ ρ F) : ∀ vs : List Nat, StR G Fb H (L2.wipe σ vs) (wipeE ρ vs) F
  | [] => S
  | v :: vs => by
    have S1 := StR.wipe hm S vs
    unfold L2.wipe wipeE
    by_cases h : v < (wipeE ρ vs).length
    · exact S1.setN h (.inl hm) rfl
    · have hl := S1.length
      rw [List.set_eq_of_length_le (by omega), List.set_eq_of_length_le (by omega)]
      exact S1
theorem wipe_at {σ : L2.St} {j : Nat} : ∀ {vs : List Nat}, j ∈ vs → j < σ.length → (L2.wipe σ vs)[j]? = some none
  | [], h, _ => by cases h
  | v :: vs, h, hl => by
    unfold L2.wipe
    by_cases e : v = j
    · subst e
      exact List.getElem?_set_self (by rw [wipe_length]; exact hl)
    · rw [List.getElem?_set_ne e]
      exact wipe_at ((List.mem_cons.mp h).resolve_left fun z => e z.symm) hl
theorem wipe_only {σ σ' : L2.St} {vs : List Nat} (h : Only vs (L2.wipe σ vs) σ') : L2.wipe σ' vs = L2.wipe σ vs := by
  refine List.ext_getElem? fun j => ?_
  have hl : σ'.length = σ.length := by rw [h.1, wipe_length]
  by_cases hj : j ∈ vs
  · by_cases hlt : j < σ.length
    · rw [wipe_at hj (by rw [hl]; exact hlt), wipe_at hj hlt]
    · rw [List.getElem?_eq_none (by rw [wipe_length, hl]; omega), List.getElem?_eq_none (by rw [wipe_length]; omega)]
  · rw [wipe_out hj, h.2 j hj]
/-- a new object: the frame must not touch it -/
theorem StR.new {G : Gx} {Fb : Gh} {H : Hp} {σ : L2.St} {ρ : Env} {F : List Addr} (S : StR G Fb H σ ρ F) {p : Addr} {o : HO} (hp : H p = none) : StR G ⟨fun a => a = p ∨ Fb.fb a, none⟩ (upd H p o) σ ρ F := by
  obtain ⟨F0, e, nd, sub⟩ := S.ex
  have s := same_upd (o := o) hp
  have k : Kept H (upd H p o) (avo Fb F) (avo ⟨fun a => a = p ∨ Fb.fb a, none⟩ F) := ⟨fun a o h _ => s a o h, fun a z => by
    rcases z with z | z | z
    · exact .inl (.inl z)
    · exact .inr (by rw [z]; exact hp)
    · exact .inl (.inr z)⟩
  refine ⟨⟨F0, e.mono k (fun a ha => same_at s (e.dom a ha)), nd, sub⟩, fun a h => s.some (S.dom a h), fun a h => ?_, fun _ h => (nomatch h), fun a h => ⟨s.tab (S.tb a h).1, (S.tb a h).2⟩⟩
  rcases h with h | h
  · rw [h, upd_same]; exact ⟨fun z => (by cases z), fun z => S.dom p z hp⟩
  · exact ⟨s.some (S.fb a h).1, (S.fb a h).2⟩
/-- a forbidden object changes -/
theorem StR.chg {G : Gx} {Fb : Gh} {H H' : Hp} {σ : L2.St} {ρ : Env} {F : List Addr} (S : StR G Fb H σ ρ F) {p : Addr} {o u : HO} (hp : Fb.fb p) (hu : H p = some u) (hn : NT u) : StR G Fb (upd H p o) σ ρ F := by
  obtain ⟨F0, e, nd, sub⟩ := S.ex
  have k : Kept H (upd H p o) (avo Fb F) (avo Fb F) := ⟨fun a u h n => by rw [upd_ne fun z => n (.inr (by rw [z]; exact hp))]; exact .of h, fun a z => .inl z⟩
  have up : ∀ b, H b ≠ none → upd H p o b ≠ none := fun b h => by
    by_cases hb : b = p
    · rw [hb, upd_same]; exact fun z => by cases z
    · rw [upd_ne hb]; exact h
  exact ⟨⟨F0, e.mono k (fun a ha => upd_ne fun z => (S.fb p hp).2 (by rw [← z]; exact sub a ha)), nd, sub⟩, fun a h => up a (S.dom a h), fun a h => ⟨up a (S.fb a h).1, (S.fb a h).2⟩, S.sf, fun a h => ⟨tab_upd (S.tb a h).1 hu hn, (S.tb a h).2⟩⟩
section
variable {T : CT} {Fb : Gh} {X : Cx} {tg iter elt : Expr} {ifs : List Expr} {scope : Scope} {own : List (Str × Nat)} {mi : Env → Res (List D)} {g : D → Env → Option Env} {mt : Env → Res Bool} {me : Env → Res D} {pos : Pos}
def mComp (vs : List Nat) (mi : Env → Res (List D)) (g : D → Env → Option Env) (mt : Env → Res Bool) (me : Env → Res D) : Env → Res (List D) := fun ρ => mi ρ >>= fun xs => match decide (xs.length ≤ sizeLine) with
  | true => compL g mt me (wipeE ρ vs) xs
  | false => .bad
def blkG (X : Cx) (scope : Scope) (tg : Expr) : TG := fun v σ H Q => ∀ (s0 : Shared) (H0 : Hp) (C : Addr) (cl : List (Str × Addr)) (fp : List Addr), TWg (X.blk s0 H0 scope (compEnvC scope cl C X.env) fp) tg v σ H Q
def blkT (X : Cx) (scope : Scope) (ifs : List Expr) : TT := fun σ H Q => ∀ (s0 : Shared) (H0 : Hp) (C : Addr) (cl : List (Str × Addr)) (fp : List Addr), TWts (X.blk s0 H0 scope (compEnvC scope cl C X.env) fp) ifs σ H Q
def blkE (X : Cx) (scope : Scope) (elt : Expr) : TE := fun σ H Q => ∀ (s0 : Shared) (H0 : Hp) (C : Addr) (cl : List (Str × Addr)) (fp : List Addr), TWe (X.blk s0 H0 scope (compEnvC scope cl C X.env) fp) elt σ H Q
theorem pg_blk (s0 : Shared) (H0 : Hp) (C : Addr) (cl : List (Str × Addr)) (fp : List Addr) : PG (X.blk s0 H0 scope (compEnvC scope cl C X.env) fp) tg (blkG X scope tg) := ⟨fun pins s σ H v u Q I r h => h s0 H0 C cl fp pins s u I r⟩
theorem pts_blk (s0 : Shared) (H0 : Hp) (C : Addr) (cl : List (Str × Addr)) (fp : List Addr) : PTs (X.blk s0 H0 scope (compEnvC scope cl C X.env) fp) ifs (blkT X scope ifs) := ⟨fun pins s σ H Q I h => h s0 H0 C cl fp pins s I⟩
theorem pe_blk (s0 : Shared) (H0 : Hp) (C : Addr) (cl : List (Str × Addr)) (fp : List Addr) : PE (X.blk s0 H0 scope (compEnvC scope cl C X.env) fp) elt (blkE X scope elt) := ⟨fun pins s σ H Q I h => h s0 H0 C cl fp pins s I⟩
/-- what the new list stands for, turn by turn -/
theorem comp_core {σ : L2.St} {H : Hp} {F : List Addr} {ρ : Env} {Q : VK} {wi : TI}
    (f : ∀ (σ : L2.St) (H : Hp) (F : List Addr) (ρ : Env) (R : It → Hp → Prop), StR (gx X T) Fb H σ ρ F → Out X T σ H (mi ρ) (fun xs => ∀ J H' P, Same H H' → ItOk (gx X T) J xs P → P H' (avo Fb F) → R J H') → wi σ H R)
    (hg : ∀ (s : Shared) (H : Hp) (C : Addr) (cl : List (Str × Addr)) (fp : List Addr) (Fb' : Gh), MG T Fb' (X.blk s H scope (compEnvC scope cl C X.env) fp) tg (own.map (·.2)) g)
    (ht : ∀ (s : Shared) (H : Hp) (C : Addr) (cl : List (Str × Addr)) (fp : List Addr) (Fb' : Gh), MTs T Fb' (X.blk s H scope (compEnvC scope cl C X.env) fp) ifs mt)
    (he : ∀ (s : Shared) (H : Hp) (C : Addr) (cl : List (Str × Addr)) (fp : List Addr) (Fb' : Gh), ME T Fb' (X.blk s H scope (compEnvC scope cl C X.env) fp) elt me)
    (S : StR (gx X T) Fb H σ ρ F) (o : Out X T σ H (mComp (own.map (·.2)) mi g mt me ρ) (fun ds => ∀ p vs H', H p = none → Same H H' → H' p = some (.lst vs) → RepL (gx X T) H' (fun a => a = p ∨ avo Fb F a) ds vs → Q (.ref p) H')) :
    tLc wi (blkG X scope tg) (blkT X scope ifs) (blkE X scope elt) (own.map (·.2)) σ H Q := by
  refine f σ H F ρ _ S (o.bind.imp fun xs _ o1 J H1 P s1 it hp L hL => ?_)
  have S1 := S.same s1
  have o1 : Out X T σ H (match decide (xs.length ≤ sizeLine) with
    | true => compL g mt me (wipeE ρ (own.map (·.2))) xs
    | false => (Res.bad : Res (List D))) _ := o1
  have hz : xs.length ≤ sizeLine := by
    by_cases hz : xs.length ≤ sizeLine
    · exact hz
    · rw [decide_eq_false hz] at o1; exact False.elim o1
  rw [decide_eq_true hz] at o1
  have o1 : Out X T σ H (compL g mt me (wipeE ρ (own.map (·.2))) xs) _ := o1
  cases q : compL g mt me (wipeE ρ (own.map (·.2))) xs with
  | err z => exact absurd q compL_noerr
  | bad => rw [q] at o1; exact False.elim o1
  | ok ds =>
    rw [q] at o1
    generalize hw : wipeE ρ (own.map (·.2)) = ρw at q
    have Sw : StR (gx X T) ⟨fun a => a = L ∨ Fb.fb a, none⟩ (upd H1 L (.lst [])) (L2.wipe σ (own.map (·.2))) ρw F := by rw [← hw]; exact (S1.drop.wipe rfl _).new hL
    have toA : ∀ {d : D} {v : V} {H' : Hp}, Rep (gx X T) H' (avo ⟨fun a => a = L ∨ Fb.fb a, none⟩ F) d v → Rep (gx X T) H' (fun a => a = L ∨ avo Fb F a) d v := fun {d v H'} r => Rep.mono (kept_sub fun a z => by
      rcases z with z | z | z
      · exact .inr (.inl z)
      · exact .inl z
      · exact .inr (.inr z)) d r
    have ofA : ∀ {d : D} {v : V} {H' : Hp}, Rep (gx X T) H' (fun a => a = L ∨ avo Fb F a) d v → Rep (gx X T) H' (avo ⟨fun a => a = L ∨ Fb.fb a, none⟩ F) d v := fun {d v H'} r => Rep.mono (kept_sub fun a z => by
      rcases z with z | z | z
      · exact .inr (.inl z)
      · exact .inl z
      · exact .inr (.inr z)) d r
    have pP : ∀ (H' : Hp) (acc : List V), Same H1 H' → H' L = some (.lst acc) → P H' (fun a => a = L ∨ avo Fb F a) := fun H' acc s e => by
      have sm : Same H1 (fun a => if a = L then none else H' a) := fun a o h => by
        have ne := ne_of_none h hL
        show Lke o (if a = L then none else H' a)
        rw [if_neg ne]
        exact s _ _ h
      have k := it.new (p := L) (o := .lst acc) (it.same hp sm) (if_pos rfl)
      have e2 : upd (fun a => if a = L then none else H' a) L (.lst acc) = H' := by
        funext a
        unfold upd
        by_cases h : a = L
        · rw [if_pos h, h, e]
        · rw [if_neg h]; exact if_neg h
      rw [e2] at k
      exact k
    refine ⟨fun i m H' => m = xs.length - i ∧ i ≤ xs.length ∧ ∃ dn rs acc, ds = dn ++ rs ∧ dn.length ≤ i ∧ compL g mt me ρw (xs.drop i) = .ok rs ∧ H' L = some (.lst acc) ∧ RepL (gx X T) H' (fun a => a = L ∨ avo Fb F a) dn acc ∧ Same H1 H' ∧
      StR (gx X T) ⟨fun a => a = L ∨ Fb.fb a, none⟩ H' (L2.wipe σ (own.map (·.2))) ρw F, ⟨xs.length, rfl, Nat.zero_le _, [], ds, [], rfl, Nat.le_refl _, q, upd_same, rfl, same_upd hL, Sw⟩, ?_⟩
    rintro i m H' ⟨rfl, hi, dn, rs, acc, e1, hdn, e2, e3, r3, s3, S3⟩
    have P3 := pP H' acc s3 e3
    have hav : ∀ a, (a = L ∨ avo Fb F a) → H' a ≠ none := fun a z => by
      rcases z with z | z
      · rw [z, e3]; exact fun z => by cases z
      · exact s3.some (S1.av a z)
    by_cases hlt : i < xs.length
    · refine .inr ⟨it.go P3 hlt, fun H'' => ∃ dn rs acc, ds = dn ++ rs ∧ dn.length ≤ i + 1 ∧ compL g mt me ρw (xs.drop (i + 1)) = .ok rs ∧ H'' L = some (.lst acc) ∧ RepL (gx X T) H'' (fun a => a = L ∨ avo Fb F a) dn acc ∧ Same H1 H'' ∧
        StR (gx X T) ⟨fun a => a = L ∨ Fb.fb a, none⟩ H'' (L2.wipe σ (own.map (·.2))) ρw F, fun H'' k => ⟨xs.length - (i + 1), by omega, rfl, hlt, k⟩, fun x H2 y => ?_⟩
      rw [List.drop_eq_getElem_cons hlt] at e2
      obtain ⟨s4, rx⟩ := it.yld P3 hav (List.getElem?_eq_getElem hlt) y
      have e2 : (match g xs[i] ρw with
        | none => (Res.bad : Res (List D))
        | some ρ1 => nerr (mt ρ1) >>= fun b => match b with
          | true => nerr (me ρ1) >>= fun d => compL g mt me ρw (xs.drop (i + 1)) >>= fun ds => .ok (d :: ds)
          | false => compL g mt me ρw (xs.drop (i + 1))) = .ok rs := e2
      intro s0 H0 C cl fp
      cases q1 : g xs[i] ρw with
      | none => rw [q1] at e2; cases e2
      | some ρ1 =>
        rw [q1] at e2
        have e2 : (nerr (mt ρ1) >>= fun b => match b with
          | true => nerr (me ρ1) >>= fun d => compL g mt me ρw (xs.drop (i + 1)) >>= fun ds => .ok (d :: ds)
          | false => compL g mt me ρw (xs.drop (i + 1))) = .ok rs := e2
        refine (hg s0 H0 C cl fp _).run _ H2 F ρw ρ1 _ x _ (S3.same s4) (ofA rx) q1 fun σ2 on S4 => ⟨wipe_only on, ?_⟩
        intro s0 H0 C cl fp
        cases q2 : mt ρ1 with
        | err z => rw [q2] at e2; cases e2
        | bad => rw [q2] at e2; cases e2
        | ok b =>
          rw [q2] at e2
          refine (ht s0 H0 C cl fp _).run σ2 H2 F ρ1 _ S4 ?_
          rw [q2]
          intro H3 s5
          cases b with
          | false =>
            have e2 : compL g mt me ρw (xs.drop (i + 1)) = .ok rs := e2
            have s45 := s4.trans s5
            exact iteF ⟨dn, rs, acc, e1, by omega, e2, s45 _ _ e3, r3.same s45, s3.trans s45, S3.same s45⟩
          | true =>
            have e2 : (nerr (me ρ1) >>= fun d => compL g mt me ρw (xs.drop (i + 1)) >>= fun ds => Res.ok (d :: ds)) = .ok rs := e2
            refine iteT ?_
            intro s0 H0 C cl fp
            cases q3 : me ρ1 with
            | err z => rw [q3] at e2; cases e2
            | bad => rw [q3] at e2; cases e2
            | ok d =>
              rw [q3] at e2
              have e2 : (compL g mt me ρw (xs.drop (i + 1)) >>= fun ds => Res.ok (d :: ds)) = .ok rs := e2
              cases q4 : compL g mt me ρw (xs.drop (i + 1)) with
              | err z => rw [q4] at e2; cases e2
              | bad => rw [q4] at e2; cases e2
              | ok rs' =>
                rw [q4] at e2
                have e2 : Res.ok (d :: rs') = .ok rs := e2
                injection e2 with e2
                refine (he s0 H0 C cl fp _).run σ2 H3 F ρ1 _ (S4.same s5) ?_
                rw [q3]
                intro y H4 s6 r6
                have s456 := s4.trans (s5.trans s6)
                have h4 := s456 _ _ e3
                have kk : Kept H4 (upd H4 L (.lst (acc ++ [y]))) (fun a => a = L ∨ avo Fb F a) (fun a => a = L ∨ avo Fb F a) := ⟨fun a u h n => by rw [upd_ne fun z => n (.inl z)]; exact .of h, fun a z => .inl z⟩
                refine ⟨acc, h4, ?_, dn ++ [d], rs', acc ++ [y], by rw [e1, ← e2, List.append_assoc]; rfl, by rw [List.length_append]; simp; omega, rfl, upd_same, ?_, ?_, ?_⟩
                · have := r3.length
                  omega
                · exact RepL.mono kk _ ((r3.same s456).append (RepL.cons (toA r6) (RepL.nil_iff.mpr rfl)))
                · exact fun a u h => by
                    have nL : a ≠ L := ne_of_none h hL
                    rw [upd_ne nL]
                    exact (s3.trans s456) a u h
                · exact (S3.same s456).chg (H' := H4) (.inl rfl) h4 (fun ps z => by cases z)
    · have e : i = xs.length := by omega
      subst e
      rw [List.drop_length] at e2
      have e2 : Res.ok ([] : List D) = .ok rs := e2
      injection e2 with e2
      subst e2
      rw [List.append_nil] at e1
      refine .inl ⟨it.stop P3 (Nat.le_refl _), ?_⟩
      have o1 : ∀ p vs H', H p = none → Same H H' → H' p = some (.lst vs) → RepL (gx X T) H' (fun a => a = p ∨ avo Fb F a) ds vs → Q (.ref p) H' := o1
      refine o1 L acc H' (s1.free hL) (s1.trans s3) e3 ?_
      rw [e1]
      exact r3
theorem mf_comp (hc : X.calm = true) (hN : X.N.Nodup) (hi : MIb T Fb X tg iter mi) (ok : BlkOk X.N X.env.scope scope own)
    (hg : ∀ (s : Shared) (H : Hp) (C : Addr) (cl : List (Str × Addr)) (fp : List Addr) (Fb' : Gh), MG T Fb' (X.blk s H scope (compEnvC scope cl C X.env) fp) tg (own.map (·.2)) g)
    (ht : ∀ (s : Shared) (H : Hp) (C : Addr) (cl : List (Str × Addr)) (fp : List Addr) (Fb' : Gh), MTs T Fb' (X.blk s H scope (compEnvC scope cl C X.env) fp) ifs mt)
    (he : ∀ (s : Shared) (H : Hp) (C : Addr) (cl : List (Str × Addr)) (fp : List Addr) (Fb' : Gh), ME T Fb' (X.blk s H scope (compEnvC scope cl C X.env) fp) elt me)
    (hs : ∀ x, foldedSetIterable iter X.env x = pure x := by intro _; rfl) : MF T Fb X (.ListComp elt [⟨tg, iter, ifs, 0⟩] scope pos) (mComp (own.map (·.2)) mi g mt me) := by
  obtain ⟨wi, hpi, f⟩ := hi.ex
  refine ⟨fun σ H F ρ Q S o => (pe_lc hc hN hpi ok pg_blk pts_blk pe_blk hs).tw ?_⟩
  exact comp_core f hg ht he S o
/-- y = [..] -/
theorem ms_setComp (i : Nat) {y : Str} {py spos : Pos} (own' : Bool) (hc : X.calm = true) (hN : X.N.Nodup) (hi : MIb T Fb X tg iter mi) (ok : BlkOk X.N X.env.scope scope own)
    (hg : ∀ (s : Shared) (H : Hp) (C : Addr) (cl : List (Str × Addr)) (fp : List Addr) (Fb' : Gh), MG T Fb' (X.blk s H scope (compEnvC scope cl C X.env) fp) tg (own.map (·.2)) g)
    (ht : ∀ (s : Shared) (H : Hp) (C : Addr) (cl : List (Str × Addr)) (fp : List Addr) (Fb' : Gh), MTs T Fb' (X.blk s H scope (compEnvC scope cl C X.env) fp) ifs mt)
    (he : ∀ (s : Shared) (H : Hp) (C : Addr) (cl : List (Str × Addr)) (fp : List Addr) (Fb' : Gh), ME T Fb' (X.blk s H scope (compEnvC scope cl C X.env) fp) elt me)
    (hy : X.N[i]? = some y := by rfl) (hyl : X.env.scope.names.lookup y = some .local := by rfl) (hsw : swapsWith (.ListComp elt [⟨tg, iter, ifs, 0⟩] scope pos) (some (.Name y py)) spos.line X.env = pure true := by exact sw_true rfl rfl rfl (by decide +kernel))
    (hs : ∀ x, foldedSetIterable iter X.env x = pure x := by intro _; rfl) : MS T Fb X (.Assign [.Name y py] (.ListComp elt [⟨tg, iter, ifs, 0⟩] scope pos) spos)
      (match own' with
        | true => mSetO i (mComp (own.map (·.2)) mi g mt me)
        | false => mSet i (toE (mComp (own.map (·.2)) mi g mt me))) := by
  obtain ⟨wi, hpi, f⟩ := hi.ex
  refine ⟨fun σ H F ρ De S o => (ps_setLc hc hN hy hyl hsw hpi ok pg_blk pts_blk pe_blk hs).tw ?_⟩
  refine comp_core (own := own) f hg ht he S ?_
  cases own' with
  | true =>
    refine (OutS.toOut S o).imp fun ds _ o1 p vs H1 np s hp r => ?_
    obtain ⟨hl, o2⟩ := o1.put
    obtain ⟨q, S'⟩ := S.setO hl s np hp r
    exact o2 _ _ _ q S'
  | false =>
    refine (OutS.toOut S o).bind.imp fun ds _ o1 p vs H1 np s hp r => ?_
    obtain ⟨hl, o2⟩ := OutS.put (show OutS X T Fb De H F (put i (.v (.d (.lst ds))) ρ) from o1)
    exact o2 _ _ F (Post.of_same s) ((S.same s).setD hl ⟨p, vs, rfl, ⟨hp, fun z => absurd np (S.av p z)⟩, RepL.mono kept_less ds r⟩)
end
end Cr
/-! Core, part 11: raise, try, a def by its body. -/
namespace Cr
open PySem PySem.Spec PyProof.Rows L2
section
variable {T : CT} {X : Cx}
def iaddD : D → D → Res D
  | .int a, .int b => .ok (.int (a + b))
  | .str a, .str b => if a.length + b.length ≤ sizeLine then .ok (.str (a ++ b)) else .bad
  | _, _ => .bad
theorem om_isub : OpM T X (inplaceOp .Sub) subD := op_int0 (gi := fun i j => .int (i - j)) iop_sub (fun _ _ _ _ => rfl) (fun _ _ => rfl) (fun x y d h => by cases x <;> cases y <;> first | exact ⟨_, _, rfl, rfl⟩ | (exact nomatch h)) (fun x y e h => by cases x <;> cases y <;> exact nomatch h)
theorem om_iadd : OpM T X (inplaceOp .Add) iaddD := by
  refine ⟨_, (iop_add.or iop_add_str), fun σ H Av dx dy x y Q hav rx ry o => ?_⟩
  cases dx <;> cases dy <;> try exact False.elim o
  · exact .inl ⟨_, _, rx, ry, o _ _ (Same.refl H) rfl⟩
  · obtain ⟨hz, f⟩ := o.if
    exact .inr ⟨_, _, rx, ry, hz, f _ _ (Same.refl H) rfl⟩
end
/-- an own error class without __init__ -/
structure ExAt (K : PySem.W.Frag) (mg : Str → Option Value) (T : CT) (c : Nat) (x : Str) : Prop where
  g : mg x = some (.ref (T.addr c))
  q : PySem.W.excIn K (T.addr c) He.veBase "ValueError.__new__" = true
  k : PySem.W.keepIn K (.ref (T.addr c)) = true
  b : PySem.W.subIn K (.ref (T.addr c)) (.type "BaseException") = some true
  t : PySem.W.typeIn K (.ref (T.addr c)) = some (.type "type")
def mRaise (x : Exc) : Env → Flow := fun ρ => .er x ρ
section
variable {T : CT} {Fb : Gh} {X : Cx} {e a b c : Expr} {body suite : List Stmt} {m m2 : Env → Flow} {pos p p2 pos' np : Pos} {x msg : Str} {j : Nat}
theorem ms_raise {k : Nat} (hc : X.calm = true) (A : ExAt X.K X.mg T k x) (hg : Gl X x := by rfl) (hdb : (x == ("__debug__" : Str)) = false := by decide) : MS T Fb X (.Raise (some (.Call (.Name x p) [.Constant (.str msg) j p2] [] pos)) none pos') (mRaise (.own k)) := by
  refine ⟨fun σ H F ρ De S o => ?_⟩
  obtain ⟨W, tk, f⟩ := o
  exact (ps_raise hc tk (pmk_own PySem.F.excBase_ValueError A.q A.g A.k (raises_own A.b A.t) hg hdb)).tw (f _ _ σ H F Post.refl S ⟨rfl, rfl⟩)
def Exc.cl : Exc → Nat
  | .own c => c
  | .low c _ => c
def nerrF : Flow → Flow
  | .er _ _ => .bad
  | f => f
/-- try: body except c: suite -/
def mTry (cs : List Nat) (c : Nat) (m m2 : Env → Flow) : Env → Flow := fun ρ => match m ρ with
  | .er x ρ' => if x.cl ∈ cs then (if x.cl = c then nerrF (m2 ρ') else .er x ρ') else .bad
  | f => f
theorem ms_try {cs : List Nat} {c : Nat} {b₀ : Stmt} {suite : List Stmt} (hs : X.stack = X.env :: X.outer) (hf : X.env.frame = some X.env.locals) (g : X.mg x = some (.ref (T.addr c))) (hm : ∀ c' ∈ cs, PySem.W.exmOne X.K (.ref (T.addr c')) (.ref (T.addr c)) = some (decide (c' = c)))
    (hb : ∀ (pn : List (Addr × Obj)) (xe : Value → Shared → Prop), PassesOwn (model X.prog X.w) X.A X.env xe → MSs T Fb (X.tr pn xe) body m)
    (hsu : ∀ (a : Addr) (pn : List (Addr × Obj)), MSs T Fb (X.suite a pn) (b₀ :: suite) m2) (hg : Gl X x := by rfl) (hdb : (x == ("__debug__" : Str)) = false := by decide) :
    MS T Fb X (.Try body [.ExceptHandler (some (.Name x np)) none (b₀ :: suite) pos'] [] [] pos) (mTry cs c m m2) := by
  refine ⟨fun σ H F ρ De S o => ?_⟩
  obtain ⟨Wout, tk, out⟩ : ∃ Wout : WX, Takes X Wout ∧ ∀ y ρ', mTry cs c m m2 ρ = .er y ρ' → ∀ cls d σ' H' F', Post H F H' F' → StR (gx X T) Fb H' σ' ρ' F' → ExcRep (gx X T) H' y cls d → Wout cls d σ' H' := by
    cases q : mTry cs c m m2 ρ with
    | er y ρ' =>
      rw [q] at o
      obtain ⟨W, tk, f⟩ := o
      exact ⟨W, tk, fun y2 ρ2 e => by cases e; exact f⟩
    | nx ρ' => exact ⟨_, takes0, fun y2 ρ2 e => by cases e⟩
    | rt d ρ' => exact ⟨_, takes0, fun y2 ρ2 e => by cases e⟩
    | bad => exact ⟨_, takes0, fun y2 ρ2 e => by cases e⟩
  have ps := ps_try_only (X := X) (x := x) (c := .ref (T.addr c)) (body := body) (suite := suite) (b₀ := b₀) (np := np) (pos := pos) (pos' := pos') (Wout := Wout) (tb := fun W D σ H => ∀ (pn : List (Addr × Obj)) (xe : Value → Shared → Prop), Takes (X.tr pn xe) W → PassesOwn (model X.prog X.w) X.A X.env xe → TWss (X.tr pn xe) body D σ H)
    (ts := fun a cls d D σ H => ∀ (pn : List (Addr × Obj)), TWss (X.suite a pn) (b₀ :: suite) D σ H) hs hf ⟨hg, hdb, .inl g⟩ tk
    (fun W pn xe tk po => ⟨fun pins s σ H D I h => h pn xe tk po pins s I⟩) (fun a oe cls d pn hz hd => ⟨fun pins s σ H D I h => h _ pins s I⟩)
  refine ps.tw ?_
  intro pn xe tk' po
  refine (hb pn xe po).run σ H F ρ De S ?_
  unfold mTry at o out
  cases q : m ρ with
  | nx ρ' => rw [q] at o; exact o
  | rt d ρ' => rw [q] at o; exact o
  | bad => rw [q] at o; exact o
  | er y ρ' =>
    rw [q] at o out
    have o : OutS X T Fb De H F (if y.cl ∈ cs then (if y.cl = c then nerrF (m2 ρ') else .er y ρ') else .bad) := o
    have out : ∀ y2 ρ2, (if y.cl ∈ cs then (if y.cl = c then nerrF (m2 ρ') else .er y ρ') else .bad) = Flow.er y2 ρ2 → ∀ cls d σ' H' F', Post H F H' F' → StR (gx X T) Fb H' σ' ρ2 F' → ExcRep (gx X T) H' y2 cls d → Wout cls d σ' H' := out
    by_cases hcs : y.cl ∈ cs
    · rw [if_pos hcs] at o out
      refine ⟨_, tk', fun cls d σ' H' F' p S' r => ?_⟩
      have ecls : cls = .ref (T.addr y.cl) := by
        cases y with
        | own c' => exact r.1
        | low c' z => exact r.1
      refine ⟨decide (y.cl = c), by rw [ecls]; exact hm _ hcs, fun e a ha pn2 => ?_, fun e => ?_⟩
      · have e := of_decide_eq_true e
        rw [if_pos e] at o
        refine (hsu a pn2).run σ' H' F' ρ' De S' ?_
        have o := o.post p
        cases q2 : m2 ρ' with
        | nx ρ2 => rw [q2] at o; exact o
        | rt d ρ2 => rw [q2] at o; exact o
        | er z ρ2 => rw [q2] at o; exact False.elim o
        | bad => rw [q2] at o; exact o
      · have e := of_decide_eq_false e
        rw [if_neg e] at out
        exact out y ρ' rfl cls d σ' H' F' p S' r
    · rw [if_neg hcs] at o; exact False.elim o
end
/-! ### a def by its body -/
def startE (l : Nat) (ds : List D) : Env := ds.map (fun d => Sl.v (.d d)) ++ List.replicate (l - ds.length) .no
def runD (l : Nat) (m : Env → Flow) : List D → Res D := fun ds => match m (startE l ds) with
  | .nx _ => .ok .non
  | .rt d _ => .ok d
  | .er x _ => .err x
  | .bad => .bad
theorem repEnv_no {G : Gx} {H : Hp} {Av : Addr → Prop} : ∀ (k : Nat) (σ : L2.St), σ.length = k → RepEnv G H Av (List.replicate k .no) σ []
  | 0, σ, h => ⟨List.eq_nil_of_length_eq_zero h, rfl⟩
  | k + 1, [], h => by cases h
  | k + 1, o :: σ, h => ⟨o, σ, [], [], rfl, rfl, rfl, repEnv_no k σ (by simpa using h)⟩
theorem repEnv_start {G : Gx} {H : Hp} {Av : Addr → Prop} {k : Nat} : ∀ {ds : List D} {vs : List V}, RepL G H Av ds vs → RepEnv G H Av (ds.map (fun d => Sl.v (.d d)) ++ List.replicate k .no) (vs.map some ++ List.replicate k none) []
  | [], vs, r => by
    have r : vs = [] := r
    subst r
    exact repEnv_no k _ (by simp)
  | d :: ds, vs, r => by
    obtain ⟨v, vr, rfl, r1, r2⟩ := r
    exact ⟨some v, _, [], [], rfl, rfl, ⟨v, rfl, rfl, r1⟩, repEnv_start r2⟩
theorem Post.nil_same {H H' : Hp} {F' : List Addr} (p : Post H [] H' F') : Same H H' := fun a o h => p.keep a o h (by simp)
section
variable {P : Program} {w : World} {K : PySem.W.Frag} {mg : Str → Option Value} {base : Heap} {T : CT} {x qual : Str} {params : Arguments} {body : List Stmt} {scope : Scope} {dvs : List V} {kws : List (Str × V)} {f : Addr} {fd : FuncData} {N ps : List Str} {k n : Nat}
theorem fn_ok {m : Env → Flow} (F : FunD K x qual params body scope dvs kws f fd) (S : FnScope N ps scope) (hps : ps.length = n)
    (hb : ∀ (cdv : Value) (A : Around) (outer : List PySem.Env) (s : Shared) (H : Hp) (E : XK) (Fb : Gh), Room k (A.deeper (envOfC qual scope s.heap.objs.size f cdv)) → MSs T Fb (cxOf (L2.CX P w) P w K mg base N qual scope f cdv A outer s H E) body m) :
    FnOk P w K mg base (L2.CX P w) (k + 1) f fd ps (spD K T n (runD N.length m)) := by
  refine F.ok S (fun vs H Q E h => by rw [hps]; exact h.1) fun cdv A outer s H vs Q E hr h => ⟨_, pss_tw, ?_⟩
  obtain ⟨hl, tb, Av, ds, hav, r, o⟩ := h
  refine (hb cdv A outer s H E ⟨Av, none⟩ hr).run _ H [] (startE N.length ds) _ ?_ ?_
  · have e : avo ⟨Av, none⟩ [] = Av := funext fun a => propext ⟨fun z => z.elim (fun z => by cases z) id, .inr⟩
    refine ⟨⟨[], ?_, List.nodup_nil, fun a ha => absurd ha (by simp)⟩, fun a ha => absurd ha (by simp), fun a h => ⟨hav a h, by simp⟩, fun _ h => (nomatch h), fun a h => ⟨tb a h, by simp⟩⟩
    rw [e]
    unfold L2.start startE
    rw [r.length]
    exact repEnv_start r
  · have toAv : ∀ {F' : List Addr} {H' : Hp} {d : D} {v : V}, Rep ⟨K, T⟩ H' (avo ⟨Av, none⟩ F') d v → Rep ⟨K, T⟩ H' Av d v := fun {F' H' d v} r => Rep.mono (kept_sub fun a z => .inr z) d r
    unfold runD at o
    cases q : m (startE N.length ds) with
    | nx ρ' => rw [q] at o; exact fun σ' H' F' p S' => o .non H' p.nil_same rfl
    | rt d ρ' => rw [q] at o; exact fun v σ' H' F' p S' r => o v H' p.nil_same (toAv r)
    | er z ρ' =>
      rw [q] at o
      exact ⟨_, takes_of rfl rfl rfl rfl, fun cls d σ' H' F' p S' r => o cls d H' p.nil_same r⟩
    | bad => rw [q] at o; exact o
theorem fn_bad (h0 : FunD K x qual params body scope dvs kws f fd) : FnOk P w K mg base (L2.CX P w) k f fd ps (spD K T n (fun _ => .bad)) :=
  ⟨fun vs H Q E h => by obtain ⟨_, _, _, _, _, _, z⟩ := h; exact False.elim z, fun A outer s H args us vs Q E _ _ _ _ h => by obtain ⟨_, _, _, _, _, _, z⟩ := h; exact False.elim z⟩
end
end Cr
/-! Core, part 12: __init__: self, its fields. -/
namespace Cr
open PySem PySem.Spec PyProof.Rows L2
def putFd (f : Str) (x : Fd) : List (Str × Fd) → List (Str × Fd)
  | [] => [(f, x)]
  | (g, y) :: r => if g = f then (g, x) :: r else (g, y) :: putFd f x r
section
variable {G : Gx} {H H' : Hp} {Av Av' : Addr → Prop}
theorem RepFs.keys : ∀ {fs : List (Str × Fd)} {vs : List (Str × V)} {fp : List Addr}, RepFs G H Av fs vs fp → vs.map (·.1) = fs.map (·.1)
  | [], _, _, h => by rw [h.1]; rfl
  | (n, f) :: fs, _, _, h => by
    obtain ⟨v, vr, p, q, rfl, _, _, h2⟩ := h
    rw [List.map_cons, List.map_cons, RepFs.keys h2]
theorem RepFs.len {fs : List (Str × Fd)} {vs : List (Str × V)} {fp : List Addr} (h : RepFs G H Av fs vs fp) : vs.length = fs.length := by
  have := congrArg List.length h.keys
  simpa using this
theorem RepFs.look : ∀ {fs : List (Str × Fd)} {vs : List (Str × V)} {fp : List Addr} {n : Str} {f : Fd}, RepFs G H Av fs vs fp → fs.lookup n = some f → ∃ v p, vs.lookup n = some v ∧ RepFd G H Av f v p
  | [], _, _, _, _, _, e => by cases e
  | (m, g) :: fs, _, _, n, f, h, e => by
    obtain ⟨v, vr, p, q, rfl, _, h1, h2⟩ := h
    rw [List.lookup_cons] at e ⊢
    cases b : (n == m) with
    | true => rw [b] at e; cases e; exact ⟨v, p, rfl, h1⟩
    | false => rw [b] at e; exact RepFs.look h2 e
/-- a field takes a thing whose places are p' -/
theorem RepFs.put (k : Kept H H' Av Av') (n : Str) {f : Fd} {v : V} {p' : List Addr} (r : RepFd G H' Av' f v p') : ∀ {fs : List (Str × Fd)} {vs : List (Str × V)} {fp : List Addr}, RepFs G H Av fs vs fp → (∀ a ∈ fp, H' a = H a) → fp.Nodup → p'.Nodup → (∀ a ∈ p', a ∉ fp) →
    ∃ fp', RepFs G H' Av' (putFd n f fs) (putF n v vs) fp' ∧ fp'.Nodup ∧ ∀ a ∈ fp', a ∈ fp ∨ a ∈ p'
  | [], _, _, h, _, _, nd, _ => by
    obtain ⟨rfl, rfl⟩ := h
    exact ⟨p', ⟨v, [], p', [], rfl, by simp, r, rfl, rfl⟩, nd, fun a ha => .inr ha⟩
  | (m, g) :: fs, _, _, h, hf, nf, nd, dj => by
    obtain ⟨w, vr, p, q, rfl, rfl, h1, h2⟩ := h
    obtain ⟨n1, n2, n3⟩ := List.nodup_append.mp nf
    show ∃ fp', RepFs G H' Av' (if m = n then (m, f) :: fs else (m, g) :: putFd n f fs) (if m = n then (m, v) :: vr else (m, w) :: putF n v vr) fp' ∧ _
    by_cases e : m = n
    · rw [if_pos e, if_pos e]
      refine ⟨p' ++ q, ⟨v, vr, p', q, rfl, rfl, r, h2.mono k fun a ha => hf a (List.mem_append_right _ ha)⟩, List.nodup_append.mpr ⟨nd, n2, fun a ha b hb z => dj a ha (by rw [z]; exact List.mem_append_right _ hb)⟩, fun a ha => ?_⟩
      rcases List.mem_append.mp ha with z | z
      · exact .inr z
      · exact .inl (List.mem_append_right _ z)
    · rw [if_neg e, if_neg e]
      obtain ⟨q', k1, k2, k3⟩ := RepFs.put k n r h2 (fun a ha => hf a (List.mem_append_right _ ha)) n2 nd (fun a ha z => dj a ha (List.mem_append_right _ z))
      refine ⟨p ++ q', ⟨w, _, p, q', rfl, rfl, h1.mono k fun a ha => hf a (List.mem_append_left _ ha), k1⟩, List.nodup_append.mpr ⟨n1, k2, fun a ha b hb z => ?_⟩, fun a ha => ?_⟩
      · rcases k3 b hb with y | y
        · exact n3 a ha b y z
        · exact dj b y (by rw [← z]; exact List.mem_append_left _ ha)
      · rcases List.mem_append.mp ha with z | z
        · exact .inl (List.mem_append_left _ z)
        · rcases k3 a z with y | y
          · exact .inl (List.mem_append_right _ y)
          · exact .inr y
/-- an owned field's list is changed -/
theorem RepFs.chg (n : Str) : ∀ {fs : List (Str × Fd)} {vs : List (Str × V)} {fp : List Addr} {xs : List D}, RepFs G H Av fs vs fp → fs.lookup n = some (.ol xs) → fp.Nodup →
    ∃ a ws, vs.lookup n = some (.ref a) ∧ H a = some (.lst ws) ∧ RepL G H Av xs ws ∧ a ∈ fp ∧ ∀ {H' : Hp} {Av' : Addr → Prop} {ys : List D} {zs : List V}, Kept H H' Av Av' → (∀ b ∈ fp, b ≠ a → H' b = H b) → H' a = some (.lst zs) → RepL G H' Av' ys zs → RepFs G H' Av' (putFd n (.ol ys) fs) vs fp
  | [], _, _, _, _, e, _ => by cases e
  | (m, g) :: fs, _, _, xs, h, e, nf => by
    obtain ⟨w, vr, p, q, rfl, rfl, h1, h2⟩ := h
    obtain ⟨n1, n2, n3⟩ := List.nodup_append.mp nf
    rw [List.lookup_cons] at e
    cases b : (n == m) with
    | true =>
      rw [b] at e
      have e : some g = some (.ol xs) := e
      cases e
      obtain ⟨a, ws, rfl, rfl, k1, k2⟩ := h1
      have hm : m = n := (beq_iff_eq.mp b).symm
      refine ⟨a, ws, by rw [List.lookup_cons, b], k1, k2, by simp, fun {H' Av' ys zs} k hk ha r => ?_⟩
      show RepFs G H' Av' (if m = n then (m, .ol ys) :: fs else _) _ _
      rw [if_pos hm]
      exact ⟨_, vr, [a], q, rfl, rfl, ⟨a, zs, rfl, rfl, ha, r⟩, h2.mono k fun b hb => hk b (List.mem_append_right _ hb) fun z => n3 a (by simp) b hb z.symm⟩
    | false =>
      rw [b] at e
      have hm : ¬ m = n := fun z => by rw [z, beq_self_eq_true] at b; cases b
      obtain ⟨a, ws, k1, k2, k3, k4, f⟩ := RepFs.chg n h2 e n2
      refine ⟨a, ws, by rw [List.lookup_cons, b]; exact k1, k2, k3, List.mem_append_right _ k4, fun {H' Av' ys zs} k hk ha r => ?_⟩
      show RepFs G H' Av' (if m = n then _ else (m, g) :: putFd n (.ol ys) fs) _ _
      rw [if_neg hm]
      exact ⟨w, vr, p, q, rfl, rfl, h1.mono k fun b hb => hk b (List.mem_append_left _ hb) fun z => n3 b hb a k4 z, f k (fun b hb => hk b (List.mem_append_right _ hb)) ha r⟩
end
section
variable {G : Gx} {Fb : Gh} {H H' : Hp} {σ : L2.St} {ρ : Env} {F : List Addr} {i c : Nat} {fs : List (Str × Fd)}
/-- self: its parts -/
theorem StR.self (S : StR G Fb H σ ρ F) (e : ρ[i]? = some (.oo c fs)) : ∃ a dx vs p, σ[i]? = some (some (.ref a)) ∧ H a = some (.ins (G.T.addr c) dx vs) ∧ RepFs G H (avo Fb F) fs vs p ∧ a ∈ F ∧ (∀ b ∈ p, b ∈ F) ∧ a ∉ p ∧ p.Nodup := by
  obtain ⟨F0, r0, nd, sub⟩ := S.ex
  obtain ⟨o, p1, p, p2, e1, e2, r1, f⟩ := r0.focus e
  obtain ⟨a, dx, vs, q, rfl, rfl, h1, h2⟩ := r1
  rw [e2] at nd
  have n2 := (List.nodup_append.mp (List.nodup_append.mp nd).1).2.1
  obtain ⟨n3, n4⟩ := List.nodup_cons.mp n2
  exact ⟨a, dx, vs, q, e1, h1, h2, sub a (by rw [e2]; simp), fun b hb => sub b (by rw [e2]; simp [hb]), n3, n4⟩
/-- self: its parts, and what comes when they change -/
theorem StR.selfU (S : StR G Fb H σ ρ F) (e : ρ[i]? = some (.oo c fs)) : ∃ a dx vs p, σ[i]? = some (some (.ref a)) ∧ H a = some (.ins (G.T.addr c) dx vs) ∧ RepFs G H (avo Fb F) fs vs p ∧ a ∈ F ∧ (∀ b ∈ p, b ∈ F) ∧ a ∉ p ∧ p.Nodup ∧
    ∀ {H' : Hp} {F' p' : List Addr} {fs' : List (Str × Fd)} {vs' : List (Str × V)}, Post H F H' F' → (∀ b ∈ F, b ∈ F') → (∀ b ∈ F', H' b ≠ none) → RepFs G H' (avo Fb F') fs' vs' p' → p'.Nodup → (∀ b ∈ p', b ∈ p ∨ (b ∈ F' ∧ H b = none)) →
      H' a = some (.ins (G.T.addr c) dx vs') → (∀ b ∈ F, (∃ o, H b = some o ∧ NT o) → b ≠ a → b ∉ p → H' b = H b) → StR G Fb H' σ (ρ.set i (.oo c fs')) F' := by
  obtain ⟨F0, r0, nd, sub⟩ := S.ex
  obtain ⟨o, p1, p, p2, e1, e2, r1, f⟩ := r0.focus e
  obtain ⟨a, dx, vs, q, rfl, rfl, h1, h2⟩ := r1
  rw [e2] at nd
  have n2 := (List.nodup_append.mp (List.nodup_append.mp nd).1).2.1
  obtain ⟨n3, n4⟩ := List.nodup_cons.mp n2
  have m0 : ∀ b ∈ p1 ++ a :: q ++ p2, b ∈ F := fun b hb => sub b (by rw [e2]; exact hb)
  have d1 : ∀ b ∈ p1, b ≠ a ∧ b ∉ q := fun b hb => ⟨fun z => (List.nodup_append.mp (List.nodup_append.mp nd).1).2.2 b hb a (by simp) z, fun z => (List.nodup_append.mp (List.nodup_append.mp nd).1).2.2 b hb b (by simp [z]) rfl⟩
  have d2 : ∀ b ∈ p2, b ≠ a ∧ b ∉ q := fun b hb => ⟨fun z => (List.nodup_append.mp nd).2.2 a (by simp) b hb z.symm, fun z => (List.nodup_append.mp nd).2.2 b (by simp [z]) b hb rfl⟩
  refine ⟨a, dx, vs, q, e1, h1, h2, m0 a (by simp), fun b hb => m0 b (by simp [hb]), n3, n4, fun {H' F' p' fs' vs'} post hF dom r ndp subp ha oth => ?_⟩
  have k := f (s' := .oo c fs') (o' := some (.ref a)) (p' := a :: p') (post.kept (Fb := Fb)) (fun b hb => oth b (m0 b (by simp [hb])) (r0.dom b (by rw [e2]; simp [hb])) (d1 b hb).1 (d1 b hb).2) (fun b hb => oth b (m0 b (by simp [hb])) (r0.dom b (by rw [e2]; simp [hb])) (d2 b hb).1 (d2 b hb).2) ⟨a, dx, vs', p', rfl, rfl, ha, r⟩
  rw [set_same e1] at k
  have hda : H a ≠ none := by rw [h1]; exact fun z => by cases z
  have na : a ∉ p' := fun z => (subp a z).elim n3 fun y => hda y.2
  have x1 : ∀ b ∈ p1, b ∉ p' := fun b hb z => (subp b z).elim (d1 b hb).2 fun y => S.dom b (m0 b (by simp [hb])) y.2
  have x2 : ∀ b ∈ p2, b ∉ p' := fun b hb z => (subp b z).elim (d2 b hb).2 fun y => S.dom b (m0 b (by simp [hb])) y.2
  have sf : ∀ a, Fb.me = some a → σ[0]? = some (some (.ref a)) ∧ ∃ c3 f3, (ρ.set i (.oo c fs'))[0]? = some (.oo c3 f3) := fun a h => by
    obtain ⟨h1, c2, fs2, h2⟩ := S.sf a h
    by_cases h0 : i = 0
    · subst h0
      exact ⟨h1, c, fs', List.getElem?_set_self (List.getElem?_eq_some_iff.mp e).1⟩
    · exact ⟨h1, c2, fs2, by rw [List.getElem?_set_ne h0]; exact h2⟩
  refine ⟨⟨_, k, ?_, fun b hb => ?_⟩, dom, fun b h => ?_, sf, fun b h => post.tab (S.tb b h)⟩
  · obtain ⟨y1, y2, y3⟩ := List.nodup_append.mp nd
    obtain ⟨z1, z2, z3⟩ := List.nodup_append.mp y1
    refine List.nodup_append.mpr ⟨List.nodup_append.mpr ⟨z1, List.nodup_cons.mpr ⟨na, ndp⟩, fun b hb d hd w => ?_⟩, y2, fun b hb d hd w => ?_⟩
    · rcases List.mem_cons.mp hd with y | y
      · exact (d1 b hb).1 (w.trans y)
      · exact x1 b hb (by rw [w]; exact y)
    · rcases List.mem_append.mp hb with y | y
      · exact y3 b (List.mem_append_left _ y) d hd w
      · rcases List.mem_cons.mp y with y | y
        · exact (d2 d hd).1 (w.symm.trans y)
        · exact x2 d hd (by rw [← w]; exact y)
  · rcases List.mem_append.mp hb with y | y
    · rcases List.mem_append.mp y with y | y
      · exact hF b (m0 b (by simp [y]))
      · rcases List.mem_cons.mp y with y | y
        · rw [y]; exact hF a (m0 a (by simp))
        · exact (subp b y).elim (fun z => hF b (m0 b (by simp [z]))) (·.1)
    · exact hF b (m0 b (by simp [y]))
  · have hb := S.fb b h
    cases q : H b with
    | none => exact absurd q hb.1
    | some o =>
      have k2 := post.keep b o q hb.2
      refine ⟨k2.some, fun z => ?_⟩
      rcases post.own b z with y | y
      · exact hb.2 y
      · rw [q] at y; cases y
end
/-! ### statements about self -/
section
variable {T : CT} {Fb : Gh} {X : Cx} {e o : Expr} {es : List Expr} {me : Env → Res D} {pos p apos : Pos} {x f : Str} {i c : Nat}
def fdD : Fd → D
  | .d x => x
  | .ol xs => .lst xs
/-- self.f, read (borrowed) -/
def mSelfB (i c : Nat) (f : Str) : Env → Res D := fun ρ => match ρ[i]? with
  | some (.oo c' fs) => if c' = c then opt ((fs.lookup f).map fdD) else .bad
  | _ => .bad
theorem mb_self (i c : Nat) {pos' : Pos} (cl : Cls X.K (T.addr c)) (na : NoAttr X.K (T.addr c) f) (hN : X.N[i]? = some x := by rfl) (hv : Vis X.env.scope x := by first | exact Or.inl rfl | exact Or.inr (Or.inl rfl) | exact Or.inr (Or.inr rfl))
    (hd : (x == ("__debug__" : Str)) = false := by decide) (hcd : (x == ("__classdict__" : Str)) = false := by decide) (hb : attributeBase (.Name x pos') f X.env (eval (.Name x pos') X.env) = eval (.Name x pos') X.env := by rfl) : MB T Fb X (.Attribute (.Name x pos') f pos) (mSelfB i c f) := by
  refine ⟨fun σ H F ρ Q S o => (pe_fld (pe_var hN hv hd hcd) hb).tw ?_⟩
  unfold mSelfB at o
  split at o
  · rename_i c' fs e
    by_cases hc : c' = c
    · subst hc
      rw [if_pos rfl] at o
      obtain ⟨d, e2, q⟩ := o.opt
      obtain ⟨a, dx, vs, p, e1, h1, h2, _⟩ := S.self e
      cases l : fs.lookup f with
      | none => rw [l] at e2; cases e2
      | some g =>
        rw [l] at e2
        cases e2
        obtain ⟨v, pp, l2, r⟩ := h2.look l
        refine ⟨_, e1, a, _, dx, vs, v, rfl, h1, cl, na, l2, q v H (Same.refl H) ?_⟩
        cases g with
        | d y => exact r.2.b
        | ol xs => obtain ⟨b, ws, rfl, _, k1, k2⟩ := r; exact ⟨b, ws, rfl, k1, k2⟩
    · rw [if_neg hc] at o; exact False.elim o
  · exact False.elim o
/-- self.f = e -/
def mSelfSet (i c : Nat) (f : Str) (m : Env → Res D) : Env → Flow := fun ρ => bindF (m ρ) ρ fun d => match ρ[i]? with
  | some (.oo c' fs) => if c' = c ∧ fs.length < 1000 then .nx (ρ.set i (.oo c (putFd f (.d d) fs))) else .bad
  | _ => .bad
theorem ms_selfSet (i c : Nat) {pos' p0 : Pos} (cl : Cls X.K (T.addr c)) (na : NoAttr X.K (T.addr c) f) (he : ME T Fb X e me) (hN : X.N[i]? = some x := by rfl) (hv : Vis X.env.scope x := by first | exact Or.inl rfl | exact Or.inr (Or.inl rfl) | exact Or.inr (Or.inr rfl))
    (hd : (x == ("__debug__" : Str)) = false := by decide) (hcd : (x == ("__classdict__" : Str)) = false := by decide) (hs : swapsWith e (some (.Attribute (.Name x p0) f pos')) pos.line X.env = pure false := by rfl) : MS T Fb X (.Assign [.Attribute (.Name x p0) f pos'] e pos) (mSelfSet i c f me) := by
  refine ⟨fun σ H F ρ De S o => (ps_fld (pe_var hN hv hd hcd) pe_tw hs).tw ?_⟩
  refine he.run σ H F ρ _ S ((OutS.toOut S o).imp fun d _ o1 v H1 s r => ?_)
  have S1 := S.same s
  split at o1
  · rename_i c' fs e
    obtain ⟨⟨hc, hl⟩, o2⟩ := OutS.if o1
    subst hc
    obtain ⟨a, dx, vs, p, e1, h1, h2, mF, pF, nap, ndp, k⟩ := S1.selfU e
    refine ⟨_, e1, a, _, dx, vs, rfl, h1, cl, na, by rw [h2.len]; exact hl, ?_⟩
    have post : Post H1 F (upd H1 a (.ins (T.addr c') dx (putF f v vs))) F := ⟨fun b u h n => by rw [upd_ne fun z => n (by rw [z]; exact mF)]; exact .of h, fun _ h => .inl h⟩
    obtain ⟨fp, q1, q2, q3⟩ := RepFs.put (post.kept (Fb := Fb)) f (f := .d d) (p' := []) ⟨rfl, Rep.mono post.kept d r⟩ h2 (fun b hb => upd_ne fun z => nap (by rw [← z]; exact hb)) ndp List.nodup_nil (fun b hb => absurd hb (by simp))
    refine o2 σ _ F ((Post.of_same s).trans post) (k post (fun _ h => h) (fun b hb => ?_) q1 q2 (fun b hb => (q3 b hb).elim .inl fun z => absurd z (by simp)) upd_same fun b _ _ n _ => upd_ne n)
    by_cases z : b = a
    · rw [z, upd_same]; exact fun z => by cases z
    · rw [upd_ne z]; exact S1.dom b hb
  · exact False.elim o1
/-- self.f = a new list -/
def mSelfSetO (i c : Nat) (f : Str) (m : Env → Res (List D)) : Env → Flow := fun ρ => bindF (m ρ) ρ fun d => match ρ[i]? with
  | some (.oo c' fs) => if c' = c ∧ fs.length < 1000 then .nx (ρ.set i (.oo c (putFd f (.ol d) fs))) else .bad
  | _ => .bad
theorem ms_selfSetO (i c : Nat) {mf : Env → Res (List D)} {pos' p0 : Pos} (cl : Cls X.K (T.addr c)) (na : NoAttr X.K (T.addr c) f) (he : MF T Fb X e mf) (hN : X.N[i]? = some x := by rfl) (hv : Vis X.env.scope x := by first | exact Or.inl rfl | exact Or.inr (Or.inl rfl) | exact Or.inr (Or.inr rfl))
    (hd : (x == ("__debug__" : Str)) = false := by decide) (hcd : (x == ("__classdict__" : Str)) = false := by decide) (hs : swapsWith e (some (.Attribute (.Name x p0) f pos')) pos.line X.env = pure false := by rfl) : MS T Fb X (.Assign [.Attribute (.Name x p0) f pos'] e pos) (mSelfSetO i c f mf) := by
  refine ⟨fun σ H F ρ De S o => (ps_fld (pe_var hN hv hd hcd) pe_tw hs).tw ?_⟩
  refine he.run σ H F ρ _ S ((OutS.toOut S o).imp fun d _ o1 q ws H1 nq s hq r => ?_)
  have S1 := S.same s
  split at o1
  · rename_i c' fs e
    obtain ⟨⟨hc, hl⟩, o2⟩ := OutS.if o1
    subst hc
    obtain ⟨a, dx, vs, p, e1, h1, h2, mF, pF, nap, ndp, k⟩ := S.selfU e
    have h1' := s _ _ h1
    refine ⟨_, e1, a, _, dx, vs, rfl, h1', cl, na, by rw [h2.len]; exact hl, ?_⟩
    have nqF : q ∉ F := fun z => S.dom q z nq
    have nqa : q ≠ a := fun z => nqF (by rw [z]; exact mF)
    have post : Post H F (upd H1 a (.ins (T.addr c') dx (putF f (.ref q) vs))) (q :: F) := ⟨fun b u h n => by rw [upd_ne fun z => n (by rw [z]; exact mF)]; exact s _ _ h, fun b z => (List.mem_cons.mp z).elim (fun e => .inr (by rw [e]; exact nq)) .inl⟩
    have k0 : Kept H1 (upd H1 a (.ins (T.addr c') dx (putF f (.ref q) vs))) (fun b => b = q ∨ avo Fb F b) (avo Fb (q :: F)) := ⟨fun b u h n => by rw [upd_ne fun z => n (.inr (.inl (by rw [z]; exact mF)))]; exact .of h, fun b z => .inl (by
      rcases z with z | z
      · rcases List.mem_cons.mp z with z | z
        · exact .inl z
        · exact .inr (.inl z)
      · exact .inr (.inr z))⟩
    have un : ∀ b ∈ F, (∃ o, H b = some o ∧ NT o) → b ≠ a → upd H1 a (.ins (T.addr c') dx (putF f (.ref q) vs)) b = H b := fun b hb t n => by rw [upd_ne n, same_at s t]
    obtain ⟨fp, q1, q2, q3⟩ := RepFs.put (post.kept (Fb := Fb)) f (f := .ol d) (v := .ref q) (p' := [q]) ⟨q, ws, rfl, rfl, by rw [upd_ne nqa]; exact hq, RepL.mono k0 d r⟩ h2 (fun b hb => un b (pF b hb) (h2.dom b hb) fun z => nap (by rw [← z]; exact hb)) ndp (by simp) (fun b hb z => by
      rw [List.mem_singleton.mp hb] at z
      exact nqF (pF q z))
    refine o2 σ _ (q :: F) post (k post (fun _ h => List.mem_cons_of_mem _ h) (fun b hb => ?_) q1 q2 (fun b hb => (q3 b hb).imp id fun z => by rw [List.mem_singleton.mp z]; exact ⟨List.mem_cons_self, nq⟩) upd_same fun b hb t n _ => un b hb t n)
    rcases List.mem_cons.mp hb with z | z
    · rw [z, upd_ne nqa, hq]; exact fun z => by cases z
    · by_cases y : b = a
      · rw [y, upd_same]; exact fun z => by cases z
      · rw [upd_ne y]; exact s.some (S.dom b z)
  · exact False.elim o1
/-- self.f.append(..) -/
def mSelfLm (i c : Nat) (f : Str) (g : List D → List D → Res (List D)) (ms : Env → Res (List D)) : Env → Flow := fun ρ => match ρ[i]? with
  | some (.oo c' fs) => if c' = c then (match fs.lookup f with
    | some (.ol xs) => bindF (ms ρ) ρ fun ds => bindF (g xs ds) ρ fun ys => .nx (ρ.set i (.oo c (putFd f (.ol ys) fs)))
    | _ => .bad) else .bad
  | _ => .bad
theorem ms_selfLw (i c : Nat) {mid : String} {nm : Str} {p2 p3 : Pos} {g : List D → List D → Res (List D)} {ms : Env → Res (List D)} (cl : Cls X.K (T.addr c)) (na : NoAttr X.K (T.addr c) f) (hM : LstW T X mid g) (ha : ML T Fb X es ms)
    (hpe : ∀ {r : V → List V → Hp → VK → Prop} {to : TE} {t : TA}, MtR X mid r → PE X (.Attribute (.Name x p2) f p3) to → PA X es t → PE X (.Call (.Attribute (.Attribute (.Name x p2) f p3) nm apos) es [] p) (tBM X.K "list" r to t))
    (hN : X.N[i]? = some x := by rfl) (hv : Vis X.env.scope x := by first | exact Or.inl rfl | exact Or.inr (Or.inl rfl) | exact Or.inr (Or.inr rfl))
    (hd : (x == ("__debug__" : Str)) = false := by decide) (hcd : (x == ("__classdict__" : Str)) = false := by decide) (hb : attributeBase (.Name x p2) f X.env (eval (.Name x p2) X.env) = eval (.Name x p2) X.env := by rfl)
    (hs : swapsWith (.Call (.Attribute (.Attribute (.Name x p2) f p3) nm apos) es [] p) none pos.line X.env = pure false := by rfl) :
    MS T Fb X (.Expr (.Call (.Attribute (.Attribute (.Name x p2) f p3) nm apos) es [] p) pos) (mSelfLm i c f g ms) := by
  obtain ⟨r, hr, fm⟩ := hM.ex
  refine ⟨fun σ H F ρ De S o => (ps_expr (hpe hr (pe_fld (pe_var hN hv hd hcd) hb) pa_tw) hs).tw ?_⟩
  unfold mSelfLm at o
  split at o
  · rename_i c' fs e
    by_cases hc : c' = c
    · subst hc
      rw [if_pos rfl] at o
      split at o
      · rename_i xs l
        obtain ⟨a, dx, vs, pp, e1, h1, h2, mF, pF, nap, ndp, k⟩ := S.selfU e
        obtain ⟨b, ws, l2, k1, k2, k3, _⟩ := RepFs.chg f h2 l ndp
        refine ⟨_, e1, a, _, dx, vs, _, rfl, h1, cl, na, l2, .inl ⟨rfl, ws, SqL.of k1⟩, ?_⟩
        refine ha.run σ H F ρ _ S ((OutS.toOut S o).imp fun ds _ o1 us H1 s1 r1 => ?_)
        have S1 := S.same s1
        obtain ⟨a', dx', vs', pp', e1', h1', h2', mF', pF', nap', ndp', kk⟩ := S1.selfU e
        rw [e1] at e1'
        cases e1'
        obtain ⟨b', ws', l2', k1', k2', k3', kc⟩ := RepFs.chg f h2' l ndp'
        have hvs : vs' = vs := by
          have q := s1 _ _ h1
          rw [h1'] at q
          cases q
          rfl
        subst hvs
        rw [l2] at l2'
        cases l2'
        have nba : b ≠ a := fun z => nap' (by rw [← z]; exact k3')
        refine fm σ H1 (avo Fb F) b xs ds ws' us _ k1' k2' r1 ((OutS.toOut S1 (o1.same s1)).imp fun ys _ o2 zs r3 => ?_)
        have post : Post H1 F (upd H1 b (.lst zs)) F := ⟨fun d u h n => by rw [upd_ne fun z => n (by rw [z]; exact pF' b k3')]; exact .of h, fun _ h => .inl h⟩
        refine o2 σ _ F post (kk post (fun _ h => h) (fun d hd => ?_) (kc post.kept (fun d _ n => upd_ne n) upd_same (RepL.mono post.kept ys r3)) ndp' (fun d hd => .inl hd) (by rw [upd_ne nba.symm]; exact h1') fun d _ _ n1 n2 => upd_ne fun z => n2 (by rw [z]; exact k3'))
        by_cases z : d = b
        · rw [z, upd_same]; exact fun z => by cases z
        · rw [upd_ne z]; exact S1.dom d hd
      · exact False.elim o
    · rw [if_neg hc] at o; exact False.elim o
  · exact False.elim o
end
/-! ### __init__ by its body -/
def startI (l c : Nat) (ds : List D) : Env := .oo c [] :: (ds.map (fun d => Sl.v (.d d)) ++ List.replicate (l - (ds.length + 1)) .no)
def finI (c : Nat) (ρ : Env) : Res (List D) := match ρ with
  | .oo c' fs :: _ => if c' = c ∧ fs.map (·.1) = flds c then .ok (fs.map fun p => fdD p.2) else .bad
  | _ => .bad
def runI (l c : Nat) (m : Env → Flow) : List D → Res (List D) := fun ds => match m (startI l c ds) with
  | .nx ρ => finI c ρ
  | .er x _ => .err x
  | _ => .bad
theorem RepFs.whole {G : Gx} {H : Hp} {Av Av' : Addr → Prop} (ha : ∀ b, Av' b → Av b) : ∀ {fs : List (Str × Fd)} {vs : List (Str × V)} {fp : List Addr}, RepFs G H Av fs vs fp → (∀ b ∈ fp, ¬ Av' b) → RepL G H Av' (fs.map fun p => fdD p.2) (vs.map (·.2))
  | [], _, _, h, _ => by rw [h.1]; rfl
  | (n, f) :: fs, _, _, h, hn => by
    obtain ⟨v, vr, p, q, rfl, rfl, h1, h2⟩ := h
    refine ⟨v, _, rfl, ?_, RepFs.whole ha h2 fun b hb => hn b (List.mem_append_right _ hb)⟩
    cases f with
    | d x => exact Rep.mono (kept_sub ha) x h1.2
    | ol xs =>
      obtain ⟨a, ws, rfl, rfl, k1, k2⟩ := h1
      exact ⟨a, ws, rfl, ⟨k1, hn a (by simp)⟩, RepL.mono (kept_sub ha) xs k2⟩
theorem zip_fst_snd {α β : Type} : ∀ l : List (α × β), (l.map (·.1)).zip (l.map (·.2)) = l
  | [] => rfl
  | (a, b) :: l => by rw [List.map_cons, List.map_cons, List.zip_cons_cons, zip_fst_snd l]
section
variable {P : Program} {w : World} {K : PySem.W.Frag} {mg : Str → Option Value} {base : Heap} {T : CT} {x qual : Str} {params : Arguments} {body : List Stmt} {scope : Scope} {dvs : List V} {kws : List (Str × V)} {f : Addr} {fd : FuncData} {N ps : List Str} {k n c : Nat}
theorem init_ok {m : Env → Flow} (F : FunD K x qual params body scope dvs kws f fd) (S : FnScope N ps scope) (hps : ps.length = n + 1)
    (hb : ∀ (cdv : Value) (A : Around) (outer : List PySem.Env) (s : Shared) (H : Hp) (E : XK) (Fb : Gh), Room k (A.deeper (envOfC qual scope s.heap.objs.size f cdv)) → MSs T Fb (cxOf (L2.CX P w) P w K mg base N qual scope f cdv A outer s H E) body m) :
    FnOk P w K mg base (L2.CX P w) (k + 1) f fd ps (spI K T c n (runI N.length c m)) := by
  refine F.ok S (fun vs H Q E h => by rw [hps]; exact h.1) fun cdv A outer s H vs Q E hr h => ⟨_, pss_tw, ?_⟩
  obtain ⟨hl, tb, Av, ds, a, dx, vr, rfl, hav, nax, hx, r, o⟩ := h
  have eA : (fun b => b = a ∨ Av b) = avo ⟨Av, some a⟩ [a] := funext fun b => propext ⟨fun z => z.elim (fun z => .inl (by simp [z])) .inr, fun z => z.elim (fun z => .inl (by simpa using z)) .inr⟩
  rw [eA] at r
  refine (hb cdv A outer s H E ⟨Av, some a⟩ hr).run _ H [a] (startI N.length c ds) _ ?_ ?_
  · refine ⟨⟨[a], ?_, by simp, fun b hb => hb⟩, fun b hb => ?_, fun b h => ⟨hav b h, fun z => nax ?_⟩, fun b h => ?_, fun b h => ⟨tb b h, fun z => ?_⟩⟩
    · have e : N.length - (V.ref a :: vr).length = N.length - (ds.length + 1) := by rw [List.length_cons, r.length]
      unfold L2.start startI
      rw [e]
      exact ⟨some (.ref a), _, [a], [], rfl, rfl, ⟨a, dx, [], [], rfl, rfl, hx, rfl, rfl⟩, repEnv_start r⟩
    · rw [List.mem_singleton.mp hb, hx]; exact fun z => by cases z
    · rw [← List.mem_singleton.mp z]; exact h
    · cases h; exact ⟨rfl, c, [], rfl⟩
    · obtain ⟨ps, h1, _⟩ := tb b h
      rw [List.mem_singleton.mp z, hx] at h1
      cases h1
  · have kp : ∀ {H' : Hp} {F' : List Addr}, Post H [a] H' F' → ∀ b o, H b = some o → b ≠ a → Lke o (H' b) := fun p b o h n => p.keep b o h (by simpa using n)
    unfold runI at o
    cases q : m (startI N.length c ds) with
    | nx ρ' =>
      rw [q] at o
      intro σ' H' F' p S'
      unfold finI at o
      cases ρ' with
      | nil => exact False.elim o
      | cons s0 ρ' =>
        cases s0 with
        | no => exact False.elim o
        | v g => exact False.elim o
        | oo c' fs =>
          by_cases hc : c' = c ∧ fs.map (·.1) = flds c
          · have o : (match (if c' = c ∧ fs.map (·.1) = flds c then Res.ok (fs.map fun p => fdD p.2) else .bad) with
              | .ok fs => ∀ H', (∀ b o, H b = some o → b ≠ a → Lke o (H' b)) → Rep ⟨K, T⟩ H' Av (.obj c fs) (.ref a) → Q .non H'
              | .err z => ∀ cls d H', (∀ b o, H b = some o → b ≠ a → Lke o (H' b)) → ExcRep ⟨K, T⟩ H' z cls d → E cls d H'
              | .bad => False) := o
            rw [if_pos hc] at o
            obtain ⟨hc1, hc2⟩ := hc
            subst hc1
            obtain ⟨a', dx', vs', p', e1, h1, h2, mF, pF, nap, ndp⟩ := S'.self (i := 0) rfl
            obtain ⟨ea, _⟩ := S'.sf a rfl
            rw [ea] at e1
            cases e1
            have nAv : ∀ b ∈ F', ¬ Av b := fun b hb z => (S'.fb b z).2 hb
            have keys : vs'.map (·.1) = flds c' := by rw [h2.keys, hc2]
            have ev : vs' = (flds c').zip (vs'.map (·.2)) := by rw [← keys, zip_fst_snd]
            have wh : RepL ⟨K, T⟩ H' Av (fs.map fun p => fdD p.2) (vs'.map (·.2)) := RepFs.whole (fun b z => .inr z) h2 fun b hb => nAv b (pF b hb)
            refine o H' (kp p) ⟨a, dx', vs'.map (·.2), rfl, ⟨by rw [← ev]; exact h1, nAv a mF⟩, ?_, wh⟩
            rw [← keys, List.length_map, List.length_map]
          · have o : (match (if c' = c ∧ fs.map (·.1) = flds c then Res.ok (fs.map fun p => fdD p.2) else .bad) with
              | .ok fs => ∀ H', (∀ b o, H b = some o → b ≠ a → Lke o (H' b)) → Rep ⟨K, T⟩ H' Av (.obj c fs) (.ref a) → Q .non H'
              | .err z => ∀ cls d H', (∀ b o, H b = some o → b ≠ a → Lke o (H' b)) → ExcRep ⟨K, T⟩ H' z cls d → E cls d H'
              | .bad => False) := o
            rw [if_neg hc] at o
            exact False.elim o
    | rt d ρ' => rw [q] at o; exact False.elim o
    | er z ρ' =>
      rw [q] at o
      exact ⟨_, takes_of rfl rfl rfl rfl, fun cls d σ' H' F' p S' r => o cls d H' (kp p) r⟩
    | bad => rw [q] at o; exact False.elim o
end
end Cr
/-! Core, part 13: lists or tuples, whichever; the law's end. -/
namespace Cr
open PySem PySem.Spec PyProof.Rows L2
theorem pi_or {X : Cx} {tg e : Expr} {w1 w2 : TI} (h1 : PI X tg e w1) (h2 : PI X tg e w2) : PI X tg e (fun σ H R => w1 σ H R ∨ w2 σ H R) :=
  ⟨fun pins s σ H R I h => h.elim (h1.run pins s σ H R I) (h2.run pins s σ H R I)⟩
section
variable {T : CT} {Fb : Gh} {X : Cx} {e a b c o tg iter elt : Expr} {es ifs : List Expr} {me ma mb : Env → Res D} {pos p apos : Pos} {x : Str} {n : Nat} {vs : List Nat}
def seqOf : D → Res (List D)
  | .lst xs => .ok xs
  | .tup xs => .ok xs
  | _ => .bad
theorem mi_seq (h : ME T Fb X e me) : MI T Fb X tg e (mUnF seqOf me) := by
  obtain ⟨w1, p1, f1⟩ := (mi_list (tg := tg) h).ex
  obtain ⟨w2, p2, f2⟩ := (mi_tup (tg := tg) h).ex
  refine ⟨_, pi_or p1 p2, fun σ H F ρ R S o => ?_⟩
  unfold mUnF at o
  cases q : me ρ with
  | bad => rw [q] at o; exact False.elim o
  | err z => rw [q] at o; exact .inl (f1 σ H F ρ R S (by unfold mUnF; rw [q]; exact o))
  | ok d =>
    rw [q] at o
    cases d with
    | lst xs => exact .inl (f1 σ H F ρ R S (by unfold mUnF; rw [q]; exact o))
    | tup xs => exact .inr (f2 σ H F ρ R S (by unfold mUnF; rw [q]; exact o))
    | _ => exact False.elim o
theorem mib_seq (h : MB T Fb X e me) (ht : ME T Fb X e me) : MIb T Fb X tg e (mUnF seqOf me) := by
  obtain ⟨w1, p1, f1⟩ := (mib_list (tg := tg) h).ex
  obtain ⟨w2, p2, f2⟩ := (mi_tup (tg := tg) ht).b.ex
  refine ⟨_, pi_or p1 p2, fun σ H F ρ R S o => ?_⟩
  unfold mUnF at o
  cases q : me ρ with
  | bad => rw [q] at o; exact False.elim o
  | err z => rw [q] at o; exact .inl (f1 σ H F ρ R S (by unfold mUnF; rw [q]; exact o))
  | ok d =>
    rw [q] at o
    cases d with
    | lst xs => exact .inl (f1 σ H F ρ R S (by unfold mUnF; rw [q]; exact o))
    | tup xs => exact .inr (f2 σ H F ρ R S (by unfold mUnF; rw [q]; exact o))
    | _ => exact False.elim o
def gQ (gs : List D → Env → Option Env) : D → Env → Option Env := fun d ρ => match d with
  | .tup xs => gs xs ρ
  | .lst xs => gs xs ρ
  | _ => none
theorem mg_seq {j : Nat} {gs : List D → Env → Option Env} (hc : X.calm = true) (h : MGs T Fb X es vs gs) (hlen : ∀ ds ρ ρ', gs ds ρ = some ρ' → ds.length = n) (hn : (assignEach es X.env).length = n := by rfl) (hst : (assignEach es X.env).findIdx? (·.1) = none := by rfl) :
    MG T Fb X (.Tuple es j pos) vs (gQ gs) := by
  refine ⟨fun σ H F ρ ρ' d v Q S r eq hQ => ?_⟩
  cases d with
  | tup xs => exact (mg_tup hc h hlen hn hst).run σ H F ρ ρ' _ v Q S r eq hQ
  | lst xs => exact (mg_lst hc h hlen hn hst).run σ H F ρ ρ' _ v Q S r eq hQ
  | _ => cases eq
/-- a + b, lists -/
def addL : D → D → Res (List D)
  | .lst a, .lst b => if a.length + b.length ≤ sizeLine then .ok (a ++ b) else .bad
  | _, _ => .bad
def mBinF (g : D → D → Res (List D)) (ma mb : Env → Res D) : Env → Res (List D) := fun ρ => ma ρ >>= fun x => mb ρ >>= fun y => g x y
theorem mf_add (ha : MB T Fb X a ma) (hb : MB T Fb X b mb) : MF T Fb X (.BinOp a .Add b pos) (mBinF addL ma mb) := by
  refine ⟨fun σ H F ρ Q S o => (pe_op op_cat pe_tw pe_tw).tw ?_⟩
  refine ha.run σ H F ρ _ S (o.bind.imp fun x _ o1 v H1 s1 r1 => ?_)
  refine hb.run σ H1 F ρ _ (S.same s1) ((o1.same s1).bind.imp fun y _ o2 u H2 s2 r2 => ?_)
  have r1 := r1.same s2
  cases x <;> cases y <;> try exact False.elim o2
  obtain ⟨hz, f⟩ := o2.if
  obtain ⟨a, vs, rfl, ha, rv⟩ := r1
  obtain ⟨b, ws, rfl, hb, rw'⟩ := r2
  refine ⟨a, b, vs, ws, rfl, rfl, ha, hb, by rw [rv.length, rw'.length]; exact hz, fun p hp => ?_⟩
  have s := s1.trans s2
  exact f p _ _ (s.free hp) (s.trans (same_upd hp)) upd_same ((rv.append rw').new hp)
end
/-! ### the law's end -/
theorem law_sp {K : PySem.W.Frag} {T : CT} {m : List D → Res D} (h : ∀ ns : List Int, ns.length ≤ 63 → m [.scr ns] = .ok (.bl true)) (H : Hp) (a : Addr) (ns : List Int) (hl : ns.length ≤ 63) (tb : ∀ a, T.tab a → GxR.TabG H a) (hS : SqL K H a (ns.map V.int)) :
    spD K T 1 m [.ref a] H (fun v _ => v = .bl true) fun _ _ _ => False := by
  refine ⟨rfl, tb, fun _ => False, [.scr ns], fun _ z => z.elim, ⟨_, [], rfl, ⟨a, rfl, ?_⟩, rfl⟩, ?_⟩
  · rcases hS with h | h
    · exact .inl ⟨h, fun z => z⟩
    · exact .inr h
  · rw [h ns hl]
    exact fun v H' _ r => r
end Cr
/-! Core, part 14: what the head says. -/
namespace Cr
open PySem PySem.Spec PyProof.Rows L2
abbrev Fg := PySem.W.Frag
def obsX (fa : List He.Fa) (fn : List He.DefD) (xs : List (Fg → Bool)) (K : Fg) : He.AlD := (((fa.all fun f => f.ok K) && fn.all fun d => d.ok K) && (xs.all fun f => f K), fn.map fun d => He.fnW K d.at_)
def SaysX (fa : List He.Fa) (fn : List He.DefD) (xs : List (Fg → Bool)) (K : Fg) : Prop := obsX fa fn xs K = He.valD fn
def obsXG (n : Nat) (fa : List He.Fa) (fn : List He.DefD) (xs : List (Fg → Bool)) (g : Addr → Option Obj) : He.AlD := obsX fa fn xs (He.frG g (He.asD g n))
def hookX (n : Nat) (fa : List He.Fa) (fn : List He.DefD) (xs : List (Fg → Bool)) : PySem.W.Hook where
  α := He.AlD
  obs := fun s => obsXG n fa fn xs s.heap.get?
  val := fun _ => He.valD fn
  says := fun _ h => ∃ K : PySem.W.Frag, K.In h ∧ SaysX fa fn xs K
  of := fun _ _ e => ⟨_, He.frG_in, e⟩
  keeps := fun _ _ _ ⟨K, hK, c⟩ k => ⟨K, PySem.W.Frag.In.keeps hK k, c⟩
theorem obsXG_eq {n : Nat} {fa : List He.Fa} {fn : List He.DefD} {xs : List (Fg → Bool)} {g : Addr → Option Obj} {s : Shared} (h : ∀ a, g a = s.heap.get? a) : obsXG n fa fn xs g = (hookX n fa fn xs).obs s := by
  have e : g = s.heap.get? := funext h
  rw [e] <;> rfl
section
variable {fa : List He.Fa} {fn : List He.DefD} {xs : List (Fg → Bool)} {K : Fg}
theorem SaysX.d (c : SaysX fa fn xs K) : He.SaysD fa fn K := by
  have c1 := (He.ba (show (((fa.all fun f => f.ok K) && fn.all fun d => d.ok K) && (xs.all fun f => f K)) = true from congrArg (fun z : He.AlD => z.1) c)).1
  have c2 : fn.map (fun d => He.fnW K d.at_) = fn.map He.DefD.val := congrArg (fun z : He.AlD => z.2) c
  show (((fa.all fun f => f.ok K) && fn.all fun d => d.ok K, fn.map fun d => He.fnW K d.at_) : He.AlD) = (true, fn.map He.DefD.val)
  rw [c1, c2]
theorem SaysX.x (c : SaysX fa fn xs K) (i : Nat) {f : Fg → Bool} (h : xs[i]? = some f := by rfl) : f K = true := by
  have c1 := (He.ba (show (((fa.all fun f => f.ok K) && fn.all fun d => d.ok K) && (xs.all fun f => f K)) = true from congrArg (fun z : He.AlD => z.1) c)).2
  exact List.all_eq_true.mp c1 f (List.mem_of_getElem? h)
end
/-- what a law's walk leans on -/
structure Wt (fa : List He.Fa) (fn : List He.DefD) (xs : List (Fg → Bool)) (K : Fg) (mg : Str → Option Value) : Prop where
  ex : ∃ h : Heap, K.In h ∧ h.Ns mainGlobals mg
  c : SaysX fa fn xs K
section
variable {fa : List He.Fa} {fn : List He.DefD} {xs : List (Fg → Bool)} {K : Fg} {mg : Str → Option Value}
theorem Wt.free (A : Wt fa fn xs K mg) (i : Nat) {x : Str} (h : fa[i]? = some (.free x) := by rfl) : mg x = none := by
  obtain ⟨hp, X, G⟩ := A.ex
  exact He.free_ok X G (A.c.d.fact i h)
theorem Wt.glo (A : Wt fa fn xs K mg) (i : Nat) {x : Str} (h : fa[i]? = some (.glo x) := by rfl) : mg x = some (.ref (He.ga K x)) := by
  obtain ⟨hp, X, G⟩ := A.ex
  exact He.glo_ok X G (A.c.d.fact i h)
theorem Wt.cls (A : Wt fa fn xs K mg) (i : Nat) {x : Str} (h : fa[i]? = some (.cls x) := by rfl) : Cls K (He.ga K x) := He.cls_ok (A.c.d.fact i h)
theorem Wt.noat (A : Wt fa fn xs K mg) (i : Nat) {x f : Str} (h : fa[i]? = some (.noat x f) := by rfl) : NoAttr K (He.ga K x) f := He.noat_ok (A.c.d.fact i h)
theorem Wt.meth (A : Wt fa fn xs K mg) (i : Nat) {x f : Str} (h : fa[i]? = some (.meth x f) := by rfl) : Meth K (He.ga K x) f (He.ma K (He.ga K x) f) := He.meth_ok (A.c.d.fact i h)
theorem Wt.mkr (A : Wt fa fn xs K mg) (i : Nat) {x : Str} (h : fa[i]? = some (.mkr x) := by rfl) : Mk K (He.ga K x) (He.ma K (He.ga K x) "__init__") := He.mkr_ok (A.c.d.fact i h)
theorem Wt.exc (A : Wt fa fn xs K mg) (i j : Nat) {T : CT} {c : Nat} {x : Str} (h : fa[i]? = some (.exc x) := by rfl) (h2 : fa[j]? = some (.glo x) := by rfl) (e : T.addr c = He.ga K x := by rfl) : ExAt K mg T c x := by
  obtain ⟨c1, c2, c3, c4⟩ := He.exc_ok (A.c.d.fact i h)
  exact ⟨by rw [e]; exact A.glo j h2, by rw [e]; exact c1, by rw [e]; exact c2, by rw [e]; exact c3, by rw [e]; exact c4⟩
theorem Wt.exm (A : Wt fa fn xs K mg) (i : Nat) {x y : Str} {b : Bool} (h : fa[i]? = some (.exm x y b) := by rfl) : PySem.W.exmOne K (.ref (He.ga K x)) (.ref (He.ga K y)) = some b := He.exm_ok (A.c.d.fact i h)
theorem Wt.int (A : Wt fa fn xs K mg) {T : CT} (i : Nat) {x : Str} {n : Int} (h : fa[i]? = some (.int x n) := by rfl) : GloD K T mg x (.int n) := by
  obtain ⟨hp, X, G⟩ := A.ex
  obtain ⟨t, e⟩ := He.int_ok X G (A.c.d.fact i h)
  exact ⟨_, .int n, e, ⟨t, rfl⟩, fun _ _ => rfl⟩
theorem Wt.str (A : Wt fa fn xs K mg) {T : CT} (i : Nat) {x z : Str} (h : fa[i]? = some (.str x z) := by rfl) : GloD K T mg x (.str z) := by
  obtain ⟨hp, X, G⟩ := A.ex
  obtain ⟨t, e⟩ := He.str_ok X G (A.c.d.fact i h)
  exact ⟨_, .str z, e, ⟨t, rfl⟩, fun _ _ => rfl⟩
theorem KTup.of {K : Fg} {a : Addr} {vs : List V} (h : ∀ H, SqT K H a vs) : KTup K a vs := by
  rcases h (fun _ => none) with h | h
  · rcases h with h | ⟨o, h⟩ <;> cases h
  · exact h
/-- a tuple of flat things -/
theorem Wt.tup (A : Wt fa fn xs K mg) {T : CT} (i j : Nat) {x : Str} {ds : List D} {dv : List He.Dv} (h : xs[i]? = some (fun K => He.tupB K x dv) := by rfl) (h2 : fa[j]? = some (.glo x) := by rfl) (hr : ∀ H Av, RepL ⟨K, T⟩ H Av ds (dv.map (He.Dv.v K))) : GloD K T mg x (.tup ds) :=
  ⟨_, .ref (He.ga K x), A.glo j h2, rfl, fun H Av => ⟨_, _, rfl, .inr (KTup.of fun H => He.tupB_ok (A.c.x i h) H), hr H Av⟩⟩
theorem Wt.def_ (A : Wt fa fn xs K mg) (i : Nat) {d : He.DefD} (h : fn[i]? = some d := by rfl) : ∃ fd, FunD K d.name d.qual d.params d.body d.scope (d.dvs K) (d.kws K) (He.fAd K d.at_) fd := A.c.d.def_ i h
end
/-- how arguments bind, no defaults -/
theorem binds_n {K : Fg} {x qual : Str} {params : Arguments} {body : List Stmt} {scope : Scope} {kws : List (Str × V)} {f : Addr} {fd : FuncData} {ps : List Str} (F : FunD K x qual params body scope [] kws f fd)
    (h : ∀ (kV doc pm : Value) (an : Option Addr) (cdv ct : Value) (us : List Value), us.length = ps.length → bindArgs (PySem.W.fnOf x qual params body scope .none kV doc pm an cdv ct) ⟨us, []⟩ = pure (ps.zip us)) : Binds K fd ps [] := F.bindsN h
end Cr
/-! Core, part 15: the law's promise, with no exception. -/
namespace Cr
open PySem PySem.Spec PyProof.Rows L2
section
variable {P : Program} {w : World} {K : PySem.W.Frag} {mg : Str → Option Value} {base : Heap} {k : Nat} {f : Addr} {fd : FuncData} {ps : List Str} {sp : Sp}
abbrev CXN : CXT := fun _ _ _ _ _ _ => False
def noE (sp : Sp) : Sp := fun vs H Q _ => sp vs H Q fun _ _ _ => False
theorem fn_no (F : FnOk P w K mg base (L2.CX P w) k f fd ps sp) : FnOk P w K mg base CXN k f fd ps (noE sp) := by
  refine ⟨fun vs H Q E h => F.len vs H Q _ h, fun A outer s H args us vs Q E hr he hb hv hs => codeAny_mono (F.run A outer s H args us vs Q _ hr he hb hv hs) fun r s' z => ?_⟩
  cases r with
  | ok x => cases x <;> first | exact z | exact False.elim z
  | error e =>
    obtain ⟨_, _, _, _, _, _, _, _, _, _, _, _, z⟩ := z
    exact False.elim z
end
end Cr
/-! Core, part 16: is with a bool; bit_length. -/
namespace Cr
open PySem PySem.Spec PyProof.Rows L2
def isBlD : D → D → Res D
  | .bl a, .bl b => .ok (.bl (decide (a = b)))
  | _, _ => .bad
def notBlD : D → D → Res D
  | .bl a, .bl b => .ok (.bl (!decide (a = b)))
  | _, _ => .bad
section
variable {T : CT} {Fb : Gh} {X : Cx} {e a : Expr} {ma : Env → Res D} {pos p : Pos}
theorem om_isb : OpM T X (compareOp .Is) isBlD := by
  refine ⟨_, op_is_bl, fun σ H Av dx dy x y Q hav rx ry o => ?_⟩
  cases dx <;> cases dy <;> try exact False.elim o
  rename_i a b
  have rx : x = V.bl a := rx
  have ry : y = V.bl b := ry
  exact ⟨a, b, rx, ry, o _ _ (Same.refl H) rfl⟩
theorem om_isnotb : OpM T X (compareOp .IsNot) notBlD := by
  refine ⟨_, op_isnot_bl, fun σ H Av dx dy x y Q hav rx ry o => ?_⟩
  cases dx <;> cases dy <;> try exact False.elim o
  rename_i a b
  have rx : x = V.bl a := rx
  have ry : y = V.bl b := ry
  exact ⟨a, b, rx, ry, o _ _ (Same.refl H) rfl⟩
def bitsD : D → Res D
  | .int i => .ok (.int (Builtin.Int.intBits i : Nat))
  | _ => .bad
theorem me_bits {apos : Pos} (ha : MB T Fb X a ma) (hbase : attributeBase a "bit_length" X.env (eval a X.env) = eval a X.env := by rfl) (hline : (apos.endLine == pos.line) = true := by rfl) : ME T Fb X (.Call (.Attribute a "bit_length" apos) [] [] pos) (mUn bitsD ma) := by
  refine ⟨fun σ H F ρ Q S o => (pe_bits pe_tw hbase hline).tw ?_⟩
  refine ha.run σ H F ρ _ S (o.bind.imp fun d _ o1 v H1 s r => ?_)
  cases d with
  | int i => exact ⟨i, r, o1 _ _ s rfl⟩
  | _ => exact False.elim o1
end
end Cr
/-! Core, part 17: max and min of a tuple. -/
namespace Cr
open PySem L2
theorem best_tup {gt : Bool} {prog : Program} {w : World} {A : Around} {E : Value → Shared → Prop} {s : Shared} {t : Addr} {its : List Value} {ns : List Int} {Q : Value → Shared → Prop}
    (hh : A.handled = none) (ht : PyProof.Rows.IsTup s.heap t its.toArray) (hi : PyProof.Rows.IntsAre its ns) (hne : 0 < ns.length)
    (h : ∀ (h' : Heap) (tk : Nat) (M : Int) (t' : Tok), (∀ (b : Addr) (o : Obj), s.heap.get? b = some o → h'.get? b = some o) → M ∈ ns → (∀ a ∈ ns, if gt = true then a ≤ M else M ≤ a) →
      Q (Value.int M t') { heap := h', gens := s.gens, drawn := s.drawn, toks := tk, os := s.os }) :
    wpAny (model prog w) A (call (Value.builtin (if gt = true then "max" else "min")) [Value.ref t]) Q E s := by
  obtain ⟨xs, e⟩ := AllInts.items (PyProof.Rows.IntsAre.allInts hi)
  have hn : numsOf (intItems xs).toList = ns := by rw [← e]; exact PyProof.Rows.IntsAre.numsOf hi
  rw [nums_intItems] at hn
  subst hn
  rw [e] at ht
  have hsz : 0 < xs.size := by rw [List.length_map, Array.length_toList] at hne; exact hne
  have hlt : t < s.heap.objs.size := ht.lt
  have hsize : (intItems xs).size = xs.size := by unfold intItems; exact Array.size_map
  have fin : ∀ (bt : Nat → Nat → Bool), (argBest bt (xs.size - 1) ≤ xs.size - 1) → (∀ j, j ≤ xs.size - 1 → if gt = true then numAt xs j ≤ numAt xs (argBest bt (xs.size - 1)) else numAt xs (argBest bt (xs.size - 1)) ≤ numAt xs j) → ∀ (v : Value) (h' : Heap) (tk : Nat), (intItems xs)[argBest bt ((intItems xs).size - 1)]? = some v →
      (∀ (b : Addr) (o : Obj), ¬b ∈ [s.heap.objs.size] → (s.heap.push { cls := Value.type "tuple_iterator", data := Data.fields #[Value.ref t, Value.int 0 0] }).get? b = some o → h'.get? b = some o) →
      Q v { heap := h', gens := s.gens, drawn := s.drawn, toks := tk, os := s.os } := by
    intro bt h1 h2 v h' tk hv hk
    rw [hsize] at hv
    obtain ⟨tv, rfl⟩ := intItems_at hv
    refine h h' tk _ tv (fun b o hb => ?_) ?_ ?_
    · refine hk b o ?_ (Heap.get?_push_of_some _ hb)
      intro hm
      rw [List.mem_singleton] at hm
      have hl := Heap.lt_size hb
      rw [hm] at hl
      exact Nat.lt_irrefl _ hl
    · rw [numAt_eq]
      refine getD_mem ?_
      rw [List.length_map, Array.length_toList]
      omega
    · intro a ha
      obtain ⟨j, hj, rfl⟩ := mem_getD ha
      rw [List.length_map, Array.length_toList] at hj
      rw [← numAt_eq]
      exact h2 j (by omega)
  have St0 : (s.heap.push { cls := Value.type "tuple_iterator", data := Data.fields #[Value.ref t, Value.int 0 0] }).IsTupleIter s.heap.objs.size t 0 ∧ (s.heap.push { cls := Value.type "tuple_iterator", data := Data.fields #[Value.ref t, Value.int 0 0] }).IsTuple t (intItems xs) :=
    ⟨⟨_, Heap.get?_push_size _ rfl, rfl, rfl⟩, ht.push _⟩
  have hfp : ∀ b ∈ [s.heap.objs.size, t], b < (s.heap.push { cls := Value.type "tuple_iterator", data := Data.fields #[Value.ref t, Value.int 0 0] }).objs.size := by
    intro b hb
    have : (s.heap.push { cls := Value.type "tuple_iterator", data := Data.fields #[Value.ref t, Value.int 0 0] }).objs.size = s.heap.objs.size + 1 := by
      unfold Heap.push; exact Array.size_push _
    rw [this]
    rcases List.mem_cons.mp hb with rfl | hb
    · exact Nat.lt_succ_self _
    · rw [List.mem_singleton.mp hb]; exact Nat.lt_succ_of_lt hlt
  cases gt with
  | true =>
    obtain ⟨h1, h2⟩ := argBest_gt (numAt xs) (xs.size - 1)
    exact call_max_walk (PyProof.Rows.iter_tuple ht ⟨s.heap.objs.size, [s.heap.objs.size, t], [s.heap.objs.size], (intItems xs).size, fun i v => (intItems xs)[i]? = some v, fun i h => h.IsTupleIter s.heap.objs.size t i ∧ h.IsTuple t (intItems xs), fun i j => decide (numAt xs i > numAt xs j), rfl,
      Walks.tuple (A := A.in1) hh s.heap.objs.size t (Nat.ne_of_lt hlt) (intItems xs), St0, hfp, by rw [hsize]; exact hsz, CmpOf.ints_gt (numAt xs) fun _ _ => intItems_at, fin _ h1 h2⟩)
  | false =>
    obtain ⟨h1, h2⟩ := argBest_lt (numAt xs) (xs.size - 1)
    exact call_min_walk (PyProof.Rows.iter_tuple ht ⟨s.heap.objs.size, [s.heap.objs.size, t], [s.heap.objs.size], (intItems xs).size, fun i v => (intItems xs)[i]? = some v, fun i h => h.IsTupleIter s.heap.objs.size t i ∧ h.IsTuple t (intItems xs), fun i j => decide (numAt xs i < numAt xs j), rfl,
      Walks.tuple (A := A.in1) hh s.heap.objs.size t (Nat.ne_of_lt hlt) (intItems xs), St0, hfp, by rw [hsize]; exact hsz, CmpOf.ints_lt (numAt xs) fun _ _ => intItems_at, fin _ h1 h2⟩)
section
variable {T : CT} {X : Cx}
def maxD2 : List D → Res D
  | [.tup xs] => opt (intsOf xs) >>= fun ns => if 0 < ns.length then .ok (.int (listMax ns)) else .bad
  | ds => maxD ds
def minD2 : List D → Res D
  | [.tup xs] => opt (intsOf xs) >>= fun ns => if 0 < ns.length then .ok (.int (listMin ns)) else .bad
  | ds => minD ds
def rBest (gt : Bool) (K : W.Frag) : List V → Hp → VK → Prop := fun vs H Q => ∃ a ns, vs = [V.ref a] ∧ (SqL K H a (ns.map V.int) ∨ SqT K H a (ns.map V.int)) ∧ 0 < ns.length ∧ Q (V.int (if gt = true then listMax ns else listMin ns)) H
theorem cr_best (gt : Bool) (hc : X.calm = true) : CallR X (.builtin (if gt = true then "max" else "min")) (rBest gt X.K) := by
  intro pins s σ H vs us Q I rv h
  obtain ⟨a, ns, rfl, hs, hne, q⟩ := h
  cases Vals.ref1 rv
  rcases hs with hs | hs
  · cases gt with
    | true => exact cr_max hc pins s σ H _ _ Q I rv ⟨a, ns, rfl, hs, hne, fun m hm hy => by rw [listMax_eq hm hy]; exact q⟩
    | false => exact cr_min hc pins s σ H _ _ Q I rv ⟨a, ns, rfl, hs, hne, fun m hm hy => by rw [listMin_eq hm hy]; exact q⟩
  · obtain ⟨its, hv, hl, _⟩ := Inv.tuple I hs
    refine best_tup (I.ok.hd hc) hl (Vals.ints hv) hne fun h' tk m t' hk h1 h2 => ⟨V.int m, H, Inv.kept I hk, ⟨t', rfl⟩, ?_⟩
    cases gt with
    | true => rw [listMax_eq h1 h2]; exact q
    | false => rw [listMin_eq h1 h2]; exact q
theorem cm_maxD2 (hc : X.calm = true) : CallM T X (.builtin "max") maxD2 := by
  refine ⟨_, cr_best true hc, fun σ H Av ds vs Q hav r o => ?_⟩
  match ds, o with
  | [.tup xs], o =>
    obtain ⟨ns, e, f⟩ := o.bind.opt
    obtain ⟨hn, f⟩ := Out.if f
    obtain ⟨v, rfl, a, ws, rfl, h1, h2⟩ := paired1 r
    rw [ints_rep h2 e] at h1
    exact ⟨a, ns, rfl, .inr (tup_sq h1), hn, f _ _ (Same.refl H) rfl⟩
  | [.lst xs], o =>
    have o : Out X T σ H (opt (intsOf xs) >>= fun ns => if 0 < ns.length then Res.ok (D.int (listMax ns)) else .bad) _ := o
    obtain ⟨ns, e, f⟩ := o.bind.opt
    obtain ⟨hn, f⟩ := Out.if f
    obtain ⟨v, rfl, a, ws, rfl, h1, h2⟩ := paired1 r
    rw [ints_rep h2 e] at h1
    exact ⟨a, ns, rfl, .inl (SqL.of h1), hn, f _ _ (Same.refl H) rfl⟩
theorem cm_minD2 (hc : X.calm = true) : CallM T X (.builtin "min") minD2 := by
  refine ⟨_, cr_best false hc, fun σ H Av ds vs Q hav r o => ?_⟩
  match ds, o with
  | [.tup xs], o =>
    obtain ⟨ns, e, f⟩ := o.bind.opt
    obtain ⟨hn, f⟩ := Out.if f
    obtain ⟨v, rfl, a, ws, rfl, h1, h2⟩ := paired1 r
    rw [ints_rep h2 e] at h1
    exact ⟨a, ns, rfl, .inr (tup_sq h1), hn, f _ _ (Same.refl H) rfl⟩
  | [.lst xs], o =>
    have o : Out X T σ H (opt (intsOf xs) >>= fun ns => if 0 < ns.length then Res.ok (D.int (listMin ns)) else .bad) _ := o
    obtain ⟨ns, e, f⟩ := o.bind.opt
    obtain ⟨hn, f⟩ := Out.if f
    obtain ⟨v, rfl, a, ws, rfl, h1, h2⟩ := paired1 r
    rw [ints_rep h2 e] at h1
    exact ⟨a, ns, rfl, .inl (SqL.of h1), hn, f _ _ (Same.refl H) rfl⟩
end
end Cr
/-! Core, part 18: the list that a def hands back, and which is new. -/
namespace Cr
open PySem L2
/-! no list within -/
mutual
def noLst : D → Bool
  | .lst _ => false
  | .scr _ => false
  | .tup ds => noLsts ds
  | .obj _ ds => noLsts ds
  | _ => true
def noLsts : List D → Bool
  | [] => true
  | d :: ds => noLst d && noLsts ds
end
/-- the data is no reference -/
def isAtom : D → Bool
  | .non => true
  | .bl _ => true
  | .int _ => true
  | .str _ => true
  | _ => false
/-! each list within has no references -/
mutual
def flatL : D → Bool
  | .lst ds => ds.all isAtom
  | .tup ds => flatLs ds
  | .obj _ ds => flatLs ds
  | _ => true
def flatLs : List D → Bool
  | [] => true
  | d :: ds => flatL d && flatLs ds
end
/-- a list that can't be one of the arguments' lists -/
def ownD (ds : List D) : D → Res (List D)
  | .lst xs => if xs.any (fun d => !isAtom d) && noLsts xs && flatLs ds then .ok xs else .bad
  | _ => .bad
/-- the places of lists with references -/
def RefL (H : Hp) (a : Addr) : Prop := ∃ ws b, H a = some (.lst ws) ∧ V.ref b ∈ ws
theorem atoms_noref {G : Gx} {H : Hp} {Av : Addr → Prop} : ∀ {ds : List D} {vs : List V}, RepL G H Av ds vs → ds.all isAtom = true → ∀ b, ¬ V.ref b ∈ vs
  | [], vs, r, _, b, h => by
    have r : vs = [] := r
    subst r
    cases h
  | d :: ds, vs, r, q, b, h => by
    obtain ⟨v, vr, rfl, r1, r2⟩ := r
    rw [List.all_cons, Bool.and_eq_true] at q
    rcases List.mem_cons.mp h with e | h
    · cases d with
      | non => have r1 : v = .non := r1; rw [r1] at e; cases e
      | bl x => have r1 : v = .bl x := r1; rw [r1] at e; cases e
      | int x => have r1 : v = .int x := r1; rw [r1] at e; cases e
      | str x => have r1 : v = .str x := r1; rw [r1] at e; cases e
      | tup x => cases q.1
      | lst x => cases q.1
      | obj c x => cases q.1
      | scr x => cases q.1
    · exact atoms_noref r2 q.2 b h
theorem some_ref {G : Gx} {H : Hp} {Av : Addr → Prop} : ∀ {ds : List D} {vs : List V}, RepL G H Av ds vs → ds.any (fun d => !isAtom d) = true → ∃ b, V.ref b ∈ vs
  | [], vs, r, q => by cases q
  | d :: ds, vs, r, q => by
    obtain ⟨v, vr, rfl, r1, r2⟩ := r
    rw [List.any_cons, Bool.or_eq_true] at q
    rcases q with q | q
    · cases d with
      | non => cases q
      | bl x => cases q
      | int x => cases q
      | str x => cases q
      | tup x => obtain ⟨a, _, e, _⟩ := r1; exact ⟨a, by rw [e]; exact List.mem_cons_self⟩
      | lst x => obtain ⟨a, _, e, _⟩ := r1; exact ⟨a, by rw [e]; exact List.mem_cons_self⟩
      | obj c x => obtain ⟨a, _, _, e, _⟩ := r1; exact ⟨a, by rw [e]; exact List.mem_cons_self⟩
      | scr x => obtain ⟨a, e, _⟩ := r1; exact ⟨a, by rw [e]; exact List.mem_cons_self⟩
    · obtain ⟨b, h⟩ := some_ref r2 q
      exact ⟨b, List.mem_cons_of_mem _ h⟩
mutual
theorem rep_flat {G : Gx} {H : Hp} {Av : Addr → Prop} : ∀ (d : D) {v : V}, Rep G H Av d v → flatL d = true → Rep G H (fun a => Av a ∨ RefL H a) d v
  | .non, v, h, _ => h
  | .bl b, v, h, _ => h
  | .int i, v, h, _ => h
  | .str x, v, h, _ => h
  | .tup ds, v, h, q => by
    obtain ⟨a, vs, e, h1, h2⟩ := h
    refine ⟨a, vs, e, ?_, repL_flat ds h2 q⟩
    rcases h1 with ⟨h1, n⟩ | h1
    · exact .inl ⟨h1, fun z => z.elim n fun ⟨ws, b, hz, _⟩ => by rw [h1] at hz; cases hz⟩
    · exact .inr h1
  | .lst ds, v, h, q => by
    obtain ⟨a, vs, e, ⟨h1, n⟩, h2⟩ := h
    refine ⟨a, vs, e, ⟨h1, fun z => z.elim n fun ⟨ws, b, hz, hb⟩ => ?_⟩, repL_flat ds h2 ?_⟩
    · rw [h1] at hz
      cases hz
      exact atoms_noref h2 q b hb
    · exact flat_atoms ds q
  | .obj c ds, v, h, q => by
    obtain ⟨a, dx, vs, e, ⟨h1, n⟩, hl, h2⟩ := h
    exact ⟨a, dx, vs, e, ⟨h1, fun z => z.elim n fun ⟨ws, b, hz, hb⟩ => by rw [h1] at hz; cases hz⟩, hl, repL_flat ds h2 q⟩
  | .scr ns, v, h, q => by
    obtain ⟨a, e, h1⟩ := h
    refine ⟨a, e, ?_⟩
    rcases h1 with ⟨h1, n⟩ | h1
    · refine .inl ⟨h1, fun z => z.elim n fun ⟨ws, b, hz, hb⟩ => ?_⟩
      rcases h1 with h1 | ⟨o, h1⟩
      · rw [h1] at hz
        cases hz
        obtain ⟨i, _, e⟩ := List.mem_map.mp hb
        cases e
      · rw [h1] at hz; cases hz
    · exact .inr h1
theorem repL_flat {G : Gx} {H : Hp} {Av : Addr → Prop} : ∀ (ds : List D) {vs : List V}, RepL G H Av ds vs → flatLs ds = true → RepL G H (fun a => Av a ∨ RefL H a) ds vs
  | [], vs, h, _ => h
  | d :: ds, vs, h, q => by
    obtain ⟨v, vr, e, h1, h2⟩ := h
    unfold flatLs at q
    rw [Bool.and_eq_true] at q
    exact ⟨v, vr, e, rep_flat d h1 q.1, repL_flat ds h2 q.2⟩
theorem flat_atoms : ∀ (ds : List D), ds.all isAtom = true → flatLs ds = true
  | [], _ => rfl
  | d :: ds, q => by
    rw [List.all_cons, Bool.and_eq_true] at q
    unfold flatLs
    rw [Bool.and_eq_true]
    refine ⟨?_, flat_atoms ds q.2⟩
    cases d <;> first | rfl | cases q.1
end
/-! what has no list within stays clear of a place of a list -/
mutual
theorem rep_clear {G : Gx} {H : Hp} {Av : Addr → Prop} {p : Addr} {ws : List V} (hp : H p = some (.lst ws)) : ∀ (d : D) {v : V}, Rep G H Av d v → noLst d = true → Rep G H (fun a => a = p ∨ Av a) d v
  | .non, v, h, _ => h
  | .bl b, v, h, _ => h
  | .int i, v, h, _ => h
  | .str x, v, h, _ => h
  | .tup ds, v, h, q => by
    obtain ⟨a, vs, e, h1, h2⟩ := h
    refine ⟨a, vs, e, ?_, repL_clear hp ds h2 q⟩
    rcases h1 with ⟨h1, n⟩ | h1
    · exact .inl ⟨h1, fun z => z.elim (fun e => by rw [e, hp] at h1; cases h1) n⟩
    · exact .inr h1
  | .obj c ds, v, h, q => by
    obtain ⟨a, dx, vs, e, ⟨h1, n⟩, hl, h2⟩ := h
    exact ⟨a, dx, vs, e, ⟨h1, fun z => z.elim (fun e => by rw [e, hp] at h1; cases h1) n⟩, hl, repL_clear hp ds h2 q⟩
  | .lst ds, v, h, q => by cases q
  | .scr ns, v, h, q => by cases q
theorem repL_clear {G : Gx} {H : Hp} {Av : Addr → Prop} {p : Addr} {ws : List V} (hp : H p = some (.lst ws)) : ∀ (ds : List D) {vs : List V}, RepL G H Av ds vs → noLsts ds = true → RepL G H (fun a => a = p ∨ Av a) ds vs
  | [], vs, h, _ => h
  | d :: ds, vs, h, q => by
    obtain ⟨v, vr, e, h1, h2⟩ := h
    unfold noLsts at q
    rw [Bool.and_eq_true] at q
    exact ⟨v, vr, e, rep_clear hp d h1 q.1, repL_clear hp ds h2 q.2⟩
end
/-- a call of a def whose list is new -/
def mArgO (mf : List D → Res D) (ms : Env → Res (List D)) : Env → Res (List D) := mArg (fun ds => mf ds >>= ownD ds) ms
section
variable {T : CT} {Fb : Gh} {X : Cx} {e : Expr} {es : List Expr} {pos p : Pos} {x : Str} {k n : Nat}
/-- what a call asks, with places of one's own choice kept clear -/
theorem spD_ofA {σ : L2.St} {H : Hp} {Av : Addr → Prop} {ds : List D} {vs : List V} {Q : VK} {mf : List D → Res D} (hl : vs.length = n) (hav : ∀ a, Av a → H a ≠ none) (tb : ∀ a, T.tab a → GxR.TabG H a) (r : RepL (gx X T) H Av ds vs)
    (o : Out X T σ H (mf ds) fun d => ∀ v H', Same H H' → Rep (gx X T) H' Av d v → Q v H') : ∃ E : XK, PassesAt (L2.CX X.prog X.w) X σ E ∧ spD X.K T n mf vs H Q E := by
  cases q : mf ds with
  | ok d =>
    rw [q] at o
    exact ⟨E0, fun _ _ _ _ _ _ h => by obtain ⟨_, _, _, _, _, _, _, _, _, _, _, _, z⟩ := h; exact z.elim, hl, tb, Av, ds, hav, r, by rw [q]; exact o⟩
  | err x =>
    rw [q] at o
    obtain ⟨W, tk, f⟩ := o
    exact ⟨WE W σ, passAt tk σ, hl, tb, Av, ds, hav, r, by rw [q]; exact f⟩
  | bad => rw [q] at o; exact False.elim o
theorem mf_call {mf : List D → Res D} {ms : Env → Res (List D)} (F : FnAt X.prog X.w X.K X.mg X.base T k x (es.length + 1) mf) (hr : Room k X.A) (ha : ML T Fb X (e :: es) ms) (hl : ∀ ρ ds, ms ρ = .ok ds → ds.length = es.length + 1) (hg : Gl X x := by rfl) (hdb : (x == ("__debug__" : Str)) = false := by decide)
    (he : starEach (e :: es) X.env = (false, eval e X.env) :: starEach es X.env := by rfl) (hpl : (backTo pos (starEach es X.env)).any (·.1) = false := by rfl) : MF T Fb X (.Call (.Name x p) (e :: es) [] pos) (mArgO mf ms) := by
  obtain ⟨f, fd, ps, F, hm, hk, hb⟩ := F.ex
  refine ⟨fun σ H Fo ρ Q S o pins s I => ?_⟩
  refine wpAny_Call_Name_kw (ld_glob I hg hm ?_ hdb)
  have args : TWa X (e :: es) σ H fun vs H1 => ∃ E : XK, PassesAt (L2.CX X.prog X.w) X σ E ∧ spD X.K T (es.length + 1) mf vs H1 Q E := by
    refine ha.run σ H Fo ρ _ S (o.bind.imp fun ds e1 o1 vs H1 s1 r1 => ?_)
    have hlen : vs.length = es.length + 1 := by rw [r1.length]; exact hl _ _ e1
    have o1 := o1.same s1
    cases q : mf ds with
    | bad => rw [q] at o1; exact False.elim o1
    | err z =>
      rw [q] at o1
      exact spD_of hlen (S.same s1).av (S.same s1).tbs r1 (by rw [q]; exact o1)
    | ok d =>
      rw [q] at o1
      cases d with
      | lst xs =>
        have o1 : Out X T σ H1 (if (xs.any (fun d => !isAtom d) && noLsts xs && flatLs ds) = true then Res.ok xs else .bad) _ := o1
        by_cases hc : (xs.any (fun d => !isAtom d) && noLsts xs && flatLs ds) = true
        · rw [if_pos hc] at o1
          rw [Bool.and_eq_true, Bool.and_eq_true] at hc
          have hav := (S.same s1).av
          refine spD_ofA (Av := fun a => avo Fb Fo a ∨ RefL H1 a) hlen (fun a h => h.elim (hav a) fun ⟨ws, b, hz, _⟩ => by rw [hz]; simp) (S.same s1).tbs (repL_flat ds r1 hc.2) ?_
          rw [q]
          intro v H2 s2 r2
          obtain ⟨a, ws, rfl, ⟨h1, hn⟩, h2⟩ := r2
          obtain ⟨b, hb⟩ := some_ref h2 hc.1.1
          have hf : H1 a = none := by
            cases q1 : H1 a with
            | none => rfl
            | some u =>
              have := s2 a u q1
              cases u with
              | tbl ps =>
                obtain ⟨m, e, _⟩ := this
                rw [e] at h1; cases h1
              | _ =>
                have this := Lke.eq this (fun ps z => by cases z)
                rw [this] at h1
                cases h1
                try exact absurd (.inr ⟨ws, b, q1, hb⟩) hn
          have hf0 : H a = none := by
            cases q1 : H a with
            | none => rfl
            | some u => exact absurd hf (s1 a u q1).some
          exact o1 a ws H2 hf0 (s1.trans s2) h1 (RepL.mono (kept_sub fun z hz => hz.elim .inl fun y => .inr (.inl y)) xs (repL_clear h1 xs h2 hc.1.2))
        · rw [if_neg hc] at o1; exact False.elim o1
      | non => exact False.elim o1
      | bl z => exact False.elim o1
      | int z => exact False.elim o1
      | str z => exact False.elim o1
      | tup z => exact False.elim o1
      | obj c z => exact False.elim o1
      | scr z => exact False.elim o1
  refine PySem.W.callWith_K (h₀ := X.base) I.ok.mod.kin hk (thn (args pos pins s I) fun us s1 ⟨vs, H1, I1, r, E, hx, q⟩ => ⟨I1.kIn, ?_⟩) he hpl
  exact run_fnS (E := fun _ => E) F hr hb hx I1 r q
end
end Cr
/-! Core, part 19: list(zip(a, b)). -/
namespace Cr
open PySem PySem.Spec PyProof.Rows L2
theorem zip_no_len : typeLookup (.type "zip") "__len__" = pure none := by rw [typeLookup_type, builtinLookup_eq_fast]; kernel_rfl
theorem zip_no_hint : typeLookup (.type "zip") "__length_hint__" = pure none := by rw [typeLookup_type, builtinLookup_eq_fast]; kernel_rfl
/-- the pairs laid so far -/
def Laid (xs ys : Array Value) (h : Heap) (B : Nat) (acc : Array Value) (i : Nat) : Prop :=
  acc.size = i ∧ (∀ (j : Nat) (v : Value), acc[j]? = some v → ∃ (T : Addr) (x y : Value), v = Value.ref T ∧ xs[j]? = some x ∧ ys[j]? = some y ∧ IsPair h T x y ∧ B ≤ T) ∧ ∀ (j k : Nat) (T : Addr), acc[j]? = some (Value.ref T) → acc[k]? = some (Value.ref T) → j = k
theorem Laid.keep {xs ys acc : Array Value} {h h' : Heap} {B i S : Nat} (l : Laid xs ys h B acc i) (hS : S < B) (k : ∀ b o, b ≠ S → B ≤ b → h.get? b = some o → h'.get? b = some o) : Laid xs ys h' B acc i := by
  refine ⟨l.1, fun j v e => ?_, l.2.2⟩
  obtain ⟨T, x, y, e1, e2, e3, e4, e5⟩ := l.2.1 j v e
  exact ⟨T, x, y, e1, e2, e3, k _ _ (Nat.ne_of_gt (Nat.lt_of_lt_of_le hS e5)) e5 e4, e5⟩
theorem Laid.push {xs ys acc : Array Value} {h : Heap} {B i T : Nat} {x y : Value} (l : Laid xs ys h B acc i) (hx : xs[i]? = some x) (hy : ys[i]? = some y) (hT : IsPair h T x y) (hB : B ≤ T) (hn : ∀ j : Nat, acc[j]? ≠ some (Value.ref T)) : Laid xs ys h B (acc.push (.ref T)) (i + 1) := by
  obtain ⟨l1, l2, l3⟩ := l
  refine ⟨by rw [Array.size_push, l1], fun j v e => ?_, fun j k T' ej ek => ?_⟩
  · rw [Array.getElem?_push] at e
    split at e
    · rename_i q
      cases e
      exact ⟨T, x, y, rfl, by rw [q, l1]; exact hx, by rw [q, l1]; exact hy, hT, hB⟩
    · exact l2 j v e
  · rw [Array.getElem?_push] at ej ek
    split at ej
    · split at ek
      · omega
      · cases ej
        exact absurd ek (hn k)
    · split at ek
      · cases ek
        exact absurd ej (hn j)
      · exact l3 j k T' ej ek
section
variable {prog : Program} {w : World} {A : Around} {R : Result → Shared → Prop} {z TI TO i1 i2 l1 l2 : Addr} {xs ys : Array Value}
/-- the zip ahead of turn i -/
def ZSt (z TI TO i1 i2 l1 l2 : Addr) (xs ys : Array Value) (S B : Addr) (i : Nat) (h : Heap) : Prop :=
  IsPair h TI (.ref i1) (.ref i2) ∧ h.IsListIter i1 l1 i ∧ h.IsListIter i2 l2 i ∧ h.IsList l1 xs ∧ h.IsList l2 ys ∧
  ((∃ a b, IsZip h z TI TO .none ∧ IsPair h TO a b) ∨ ∃ T f oT, IsZipHeld h z TI TO T f ∧ h.get? T = some oT ∧ B ≤ T)
structure ZOff (z TI TO i1 i2 l1 l2 S B : Addr) : Prop where
  nz : S ≠ z
  nTI : S ≠ TI
  nTO : S ≠ TO
  n1 : S ≠ i1
  n2 : S ≠ i2
  nl1 : S ≠ l1
  nl2 : S ≠ l2
  nB : S < B
  zB : z < B
  tB : TO < B
  i1B : i1 < B
  i2B : i2 < B
theorem ZSt.keep {S B : Addr} {i : Nat} {h h' : Heap} (st : ZSt z TI TO i1 i2 l1 l2 xs ys S B i h) (O : ZOff z TI TO i1 i2 l1 l2 S B) (k : ∀ b o, b ≠ S → h.get? b = some o → h'.get? b = some o) : ZSt z TI TO i1 i2 l1 l2 xs ys S B i h' := by
  obtain ⟨a1, a2, a3, a4, a5, a6⟩ := st
  have lk : ∀ {l : Addr} {zs : Array Value}, S ≠ l → h.IsList l zs → h'.IsList l zs := fun {l zs} n ⟨o, ho, r⟩ => ⟨o, k _ _ (Ne.symm n) ho, r⟩
  refine ⟨k _ _ (Ne.symm O.nTI) a1, a2.at fun o e => k _ _ (Ne.symm O.n1) e, a3.at fun o e => k _ _ (Ne.symm O.n2) e, lk O.nl1 a4, lk O.nl2 a5, ?_⟩
  rcases a6 with ⟨a, b, e1, e2⟩ | ⟨T, f, oT, e1, e2, e3⟩
  · exact .inl ⟨a, b, k _ _ (Ne.symm O.nz) e1, k _ _ (Ne.symm O.nTO) e2⟩
  · exact .inr ⟨T, f, oT, k _ _ (Ne.symm O.nz) e1, k _ _ (fun q => Nat.lt_irrefl _ (Nat.lt_of_lt_of_le (q ▸ O.nB) e3)) e2, e3⟩
theorem zl_loop (hh : A.handled = none) (D : ZipApart z TI TO i1 i2 l1 l2) {S B : Addr} (O : ZOff z TI TO i1 i2 l1 l2 S B) (res : Value) (n : Nat) (hx : xs.size = n) (hy : ys.size = n) (hn : n ≤ sizeLine) :
    ∀ (k i : Nat) (s : Shared) (acc : Array Value) (c : Nat), n - i = k → i ≤ n → ZSt z TI TO i1 i2 l1 l2 xs ys S B i s.heap → B ≤ s.heap.objs.size → s.heap.get? S = some { cls := .type "list", dict := none, data := .seq acc c, slots := #[] } → Laid xs ys s.heap B acc i →
    (∀ h' acc' c', (∀ b o, b ≠ S → b ≠ z → b ≠ TO → b ≠ i1 → b ≠ i2 → s.heap.get? b = some o → h'.get? b = some o) → h'.get? S = some { cls := .type "list", dict := none, data := .seq acc' c', slots := #[] } → Laid xs ys h' B acc' n → R (.ok (.ret res)) { s with heap := h' }) →
    codeAny (model prog w) A (.builtin "list.extend.loop" ⟨[.ref S, .ref z, res], []⟩) R s := by
  intro k
  induction k with
  | zero =>
    intro i s acc c hk hi hst hB hS hacc hR
    have hin : i = n := by omega
    subst hin
    refine codeAny_builtin F.entry_extend_loop ?_
    rw [Around.under_plainId F.plain_extend_loop _]
    show wpAny _ A.in1 (pyNext (.ref z) >>= _) _ _ s
    obtain ⟨a1, a2, a3, a4, a5, a6⟩ := hst
    have hend : xs[i]? = none ∨ ys[i]? = none := .inl (by simp [hx])
    have done : ∀ h', (∀ c o, c ≠ z → c ≠ TO → c ≠ i1 → c ≠ i2 → s.heap.get? c = some o → h'.get? c = some o) → R (.ok (.ret res)) { s with heap := h' } := fun h' kk =>
      hR h' acc c (fun b o _ b1 b2 b3 b4 e => kk b o b1 b2 b3 b4 e) (kk _ _ O.nz O.nTO O.n1 O.n2 hS) (hacc.keep O.nB fun b o _ hb e => kk b o (Nat.ne_of_gt (Nat.lt_of_lt_of_le O.zB hb)) (Nat.ne_of_gt (Nat.lt_of_lt_of_le O.tB hb)) (Nat.ne_of_gt (Nat.lt_of_lt_of_le O.i1B hb)) (Nat.ne_of_gt (Nat.lt_of_lt_of_le O.i2B hb)) e)
    rcases a6 with ⟨a, b, e1, e2⟩ | ⟨T, f, oT, e1, e2, e3⟩
    · exact wpAny_bind (wpAny_pyNext_zip_end (A := A.in1) hh D e1 a1 e2 a2 a3 a4 a5 hend fun h' kk => wpAny_pure (done h' kk))
    · exact wpAny_bind (wpAny_pyNext_zip_end_held (A := A.in1) hh D e1 e2 a1 a2 a3 a4 a5 hend fun h' kk => wpAny_pure (done h' fun c o b1 b2 b3 b4 e => kk c o b1 b3 b4 e))
  | succ k ih =>
    intro i s acc c hk hi hst hB hS hacc hR
    have hlt : i < n := by omega
    have hxi : xs[i]? = some xs[i] := Array.getElem?_eq_getElem (by omega)
    have hyi : ys[i]? = some ys[i] := Array.getElem?_eq_getElem (by omega)
    refine codeAny_builtin F.entry_extend_loop ?_
    rw [Around.under_plainId F.plain_extend_loop _]
    show wpAny _ A.in1 (pyNext (.ref z) >>= _) _ _ s
    have next : ∀ h', (∃ T f oT, IsZipHeld h' z TI TO T f ∧ h'.get? T = some oT ∧ B ≤ T) → h'.IsListIter i1 l1 (i + 1) → h'.IsListIter i2 l2 (i + 1) → IsPair h' s.heap.objs.size xs[i] ys[i] → h'.objs.size = s.heap.objs.size + 1 →
        (∀ c o, c ≠ z → c ≠ TO → c ≠ i1 → c ≠ i2 → s.heap.get? c = some o → h'.get? c = some o) → wpAny (model prog w) A.in1 (updateSeq S (·.push (.ref s.heap.objs.size)) >>= fun _ => again (.builtin "list.extend.loop" ⟨[.ref S, .ref z, res], []⟩)) (fun fin s' => match fin with | .done f => R (.ok f) s' | .again c' => c'.quiet = true ∧ codeAny (model prog w) A c' R s') (fun e s' => R (.error e) s') { s with heap := h' } := by
      intro h' hf b2 b3 b4 b5 kk
      obtain ⟨a1, a2, a3, a4, a5, a6⟩ := hst
      have hS' := kk _ _ O.nz O.nTO O.n1 O.n2 hS
      have lk : ∀ {l : Addr} {zs : Array Value}, l ≠ z → l ≠ TO → l ≠ i1 → l ≠ i2 → s.heap.IsList l zs → h'.IsList l zs := fun {l zs} n1 n2 n3 n4 ⟨o, ho, r⟩ => ⟨o, kk _ _ n1 n2 n3 n4 ho, r⟩
      have st1 : ZSt z TI TO i1 i2 l1 l2 xs ys S B (i + 1) h' := by
        obtain ⟨T, f, oT, e1, e2, e3⟩ := hf
        exact ⟨kk _ _ D.TIz D.TITO D.TIi1 D.TIi2 a1, b2, b3, lk D.l1z D.l1TO D.l1i1 D.l1i2 a4, lk D.l2z D.l2TO D.l2i1 D.l2i2 a5, .inr ⟨T, f, oT, e1, e2, e3⟩⟩
      have acc1 : Laid xs ys h' B (acc.push (.ref s.heap.objs.size)) (i + 1) := by
        refine Laid.push (hacc.keep O.nB fun b o _ hb e => kk b o (Nat.ne_of_gt (Nat.lt_of_lt_of_le O.zB hb)) (Nat.ne_of_gt (Nat.lt_of_lt_of_le O.tB hb)) (Nat.ne_of_gt (Nat.lt_of_lt_of_le O.i1B hb)) (Nat.ne_of_gt (Nat.lt_of_lt_of_le O.i2B hb)) e) hxi hyi b4 hB fun j e => ?_
        obtain ⟨T, x, y, e1, _, _, e4, _⟩ := hacc.2.1 j _ e
        cases e1
        exact absurd (Heap.lt_size e4) (Nat.lt_irrefl _)
      refine wpAny_bind ?_
      have oth : ∀ b o, b ≠ S → h'.get? b = some o → (h'.update S (Obj.mapSeq (·.push (.ref s.heap.objs.size)))).get? b = some o := fun b o hb e => (Heap.get?_update_other _ _ (Ne.symm hb)).trans e
      refine wpAny_updateSeq hS' rfl (wpAny_pure ⟨plainId_quiet F.plain_extend_loop _, ih (i + 1) _ (acc.push (.ref s.heap.objs.size)) _ (by omega) hlt (st1.keep O oth) ?_ (Heap.get?_update_self _ hS' rfl) (acc1.keep O.nB fun b o hb _ e => oth b o hb e) fun h2 acc' c' hm hS2 hacc' => ?_⟩)
        (by rw [hacc.1]; omega) (by show (acc.push _).size ≤ sizeLine + 1; rw [Array.size_push, hacc.1]; omega)
      · show B ≤ (h'.update S _).objs.size
        have : (h'.update S (Obj.mapSeq (·.push (.ref s.heap.objs.size)))).objs.size = h'.objs.size := (Heap.SameBut.update ..).1
        rw [this, b5]
        exact Nat.le_succ_of_le hB
      · exact hR h2 acc' c' (fun b o n0 n1 n2 n3 n4 e => hm b o n0 n1 n2 n3 n4 (oth b o n0 (kk b o n1 n2 n3 n4 e))) hS2 hacc'
    obtain ⟨a1, a2, a3, a4, a5, a6⟩ := id hst
    rcases a6 with ⟨a, b, e1, e2⟩ | ⟨T, f, oT, e1, e2, e3⟩
    · exact wpAny_bind (wpAny_pyNext_zip_item D e1 a1 e2 a2 a3 a4 a5 hxi hyi fun h' q1 q2 q3 q4 q5 q6 q7 => next h' ⟨_, false, _, q1, q5, hB⟩ q3 q4 q5 q6 q7)
    · exact wpAny_bind (wpAny_pyNext_zip_item_held D e1 e2 a1 a2 a3 a4 a5 hxi hyi fun h' q1 q2 q3 q4 q5 q6 => next h' ⟨T, true, oT, q1, q6 _ _ (Nat.ne_of_gt (Nat.lt_of_lt_of_le O.zB e3)) (Nat.ne_of_gt (Nat.lt_of_lt_of_le O.i1B e3)) (Nat.ne_of_gt (Nat.lt_of_lt_of_le O.i2B e3)) e2, e3⟩ q2 q3 q4 q5 fun c o n1 n2 n3 n4 e => q6 c o n1 n3 n4 e)
theorem zl_extend (hh : A.handled = none) (D : ZipApart z TI TO i1 i2 l1 l2) {S B : Addr} {s : Shared} (O : ZOff z TI TO i1 i2 l1 l2 S B) (res : Value) (n c₀ : Nat) (hx : xs.size = n) (hy : ys.size = n) (hn : n ≤ sizeLine)
    (hst : ZSt z TI TO i1 i2 l1 l2 xs ys S B 0 s.heap) (hz : ∃ r, IsZip s.heap z TI TO r) (hB : B ≤ s.heap.objs.size) (hS : s.heap.get? S = some { cls := .type "list", data := .seq #[] c₀ })
    (hR : ∀ h' acc' c', (∀ b o, b ≠ S → b ≠ z → b ≠ TO → b ≠ i1 → b ≠ i2 → s.heap.get? b = some o → h'.get? b = some o) → h'.get? S = some { cls := .type "list", dict := none, data := .seq acc' c', slots := #[] } → Laid xs ys h' B acc' n → R (.ok (.ret res)) { s with heap := h' }) :
    wpAny (model prog w) A.in1 (Builtin.List.listExtendWith (.ref S) (.ref z) res)
      (fun fin s' => match fin with | .done f => R (.ok f) s' | .again c' => c'.quiet = true ∧ codeAny (model prog w) A c' R s') (fun e s' => R (.error e) s') s := by
  obtain ⟨r, hz⟩ := hz
  have hT : s.TypeIs (.ref z) "zip" := ⟨_, hz, rfl⟩
  unfold Builtin.List.listExtendWith
  refine wpAny_bind (wpAny_typeOf hT ?_)
  have h1 : Builtin.List.listSameRef (.ref S) (.ref z) = false := by simp [Builtin.List.listSameRef, O.nz]
  have h2 : (Value.type "zip" == Value.type "list") = false := by decide
  have h3 : (Value.type "zip" == Value.type "tuple") = false := by decide
  simp only [h1, h2, h3, Bool.or_false, Bool.false_eq_true, if_false]
  refine wpAny_bind (wpAny_pyIter_zip hz ?_)
  refine wpAny_bind (wpAny_holding ?_)
  unfold Builtin.List.listLengthHint
  refine wpAny_bind (wpAny_specialOf hT zip_no_len ?_)
  show wpAny _ A.in1 (specialOf (Value.ref z) (Str.ofString "__length_hint__") >>= _) _ _ _
  refine wpAny_bind (wpAny_specialOf hT zip_no_hint ?_)
  refine wpAny_pure ?_
  show wpAny _ A.in1 (rule "list.extend.makes-room" >>= fun _ => Builtin.List.listTouch (.ref S) >>= fun _ =>
    again (.builtin "list.extend.loop" ⟨[.ref S, .ref z, res], []⟩)) _ _ _
  refine wpAny_bind (wpAny_rule ?_)
  refine wpAny_bind ?_
  show wpAny _ A.in1 (updateSeq S (·.push .none) >>= fun _ => updateSeq S (·.pop)) _ _ _
  refine wpAny_bind (wpAny_updateSeq hS rfl ?_)
  have hS₂ := Heap.get?_update_self (Obj.mapSeq (·.push Value.none)) hS rfl
  refine wpAny_updateSeq (hz := by seq_fits) hS₂ rfl ?_
  have hS₃ := Heap.get?_update_self (Obj.mapSeq (·.pop)) hS₂ rfl
  have oth : ∀ b o, b ≠ S → s.heap.get? b = some o → ((s.heap.update S (Obj.mapSeq (·.push Value.none))).update S (Obj.mapSeq (·.pop))).get? b = some o :=
    fun b o hb e => (Heap.get?_update_other _ _ (Ne.symm hb)).trans ((Heap.get?_update_other _ _ (Ne.symm hb)).trans e)
  refine wpAny_pure ⟨plainId_quiet F.plain_extend_loop _, zl_loop hh D O res n hx hy hn n 0 _ _ _ rfl (Nat.zero_le _) (hst.keep O oth) ?_ hS₃ ⟨rfl, fun j v e => by simp at e, fun j k T e => by simp at e⟩ fun h' acc' c' hk hS' hl => ?_⟩
  · show B ≤ ((s.heap.update S _).update S _).objs.size
    have e1 : ((s.heap.update S (Obj.mapSeq (·.push Value.none))).update S (Obj.mapSeq (·.pop))).objs.size = (s.heap.update S (Obj.mapSeq (·.push Value.none))).objs.size := (Heap.SameBut.update ..).1
    have e2 : (s.heap.update S (Obj.mapSeq (·.push Value.none))).objs.size = s.heap.objs.size := (Heap.SameBut.update ..).1
    rw [e1, e2]
    exact hB
  · exact hR h' acc' c' (fun b o n0 n1 n2 n3 n4 e => hk b o n0 n1 n2 n3 n4 (oth b o n0 e)) hS' hl
theorem zl_init (hh : A.handled = none) (D : ZipApart z TI TO i1 i2 l1 l2) {S B : Addr} {s : Shared} (O : ZOff z TI TO i1 i2 l1 l2 S B) (n : Nat) (hx : xs.size = n) (hy : ys.size = n) (hn : n ≤ sizeLine)
    (hst : ZSt z TI TO i1 i2 l1 l2 xs ys S B 0 s.heap) (hz : ∃ r, IsZip s.heap z TI TO r) (hB : B ≤ s.heap.objs.size) (hS : s.heap.get? S = some { cls := .type "list", data := .seq #[] })
    (hR : ∀ h' acc' c', (∀ b o, b ≠ S → b ≠ z → b ≠ TO → b ≠ i1 → b ≠ i2 → s.heap.get? b = some o → h'.get? b = some o) → h'.get? S = some { cls := .type "list", dict := none, data := .seq acc' c', slots := #[] } → Laid xs ys h' B acc' n → R (.ok (.ret .none)) { s with heap := h' }) :
    wpAny (model prog w) A.in1 (Builtin.«list.__init__» ⟨[.ref S, .ref z], []⟩)
      (fun fin s' => match fin with | .done f => R (.ok f) s' | .again c' => c'.quiet = true ∧ codeAny (model prog w) A c' R s') (fun e s' => R (.error e) s') s := by
  show wpAny _ _ (do let old ← Builtin.List.listItems (.ref S); Builtin.List.listUpdate (.ref S) (fun _ => #[]); letGo old.toList.reverse; Builtin.List.listExtendWith (.ref S) (.ref z) .none) _ _ s
  refine wpAny_bind ?_
  unfold Builtin.List.listItems
  refine wpAny_bind (wpAny_seqItems hS rfl (wpAny_pure ?_))
  show wpAny _ _ (updateSeq S (fun _ => #[]) >>= fun _ => letGo (#[] : Array Value).toList.reverse >>= fun _ => Builtin.List.listExtendWith (.ref S) (.ref z) .none) _ _ s
  refine wpAny_bind (wpAny_updateSeq hS rfl ?_)
  have hS₂ := Heap.get?_update_self (Obj.mapSeq (fun _ => (#[] : Array Value))) hS rfl
  have oth : ∀ b o, b ≠ S → s.heap.get? b = some o → (s.heap.update S (Obj.mapSeq (fun _ => (#[] : Array Value)))).get? b = some o :=
    fun b o hb e => (Heap.get?_update_other _ _ (Ne.symm hb)).trans e
  refine wpAny_bind (wpAny_letGo ?_)
  obtain ⟨r, hz⟩ := hz
  refine zl_extend hh D O .none n _ hx hy hn (hst.keep O oth) ⟨r, oth _ _ (Ne.symm O.nz) hz⟩ ?_ hS₂ fun h' acc' c' hk hS' hl => hR h' acc' c' (fun b o n0 n1 n2 n3 n4 e => hk b o n0 n1 n2 n3 n4 (oth b o n0 e)) hS' hl
  show B ≤ (s.heap.update S _).objs.size
  have e2 : (s.heap.update S (Obj.mapSeq (fun _ => (#[] : Array Value)))).objs.size = s.heap.objs.size := (Heap.SameBut.update ..).1
  rw [e2]; exact hB
theorem zl_call {E Q : Value → Shared → Prop} {s : Shared} (hh : A.handled = none) (D : ZipApart z TI TO i1 i2 l1 l2) (n : Nat) (hx : xs.size = n) (hy : ys.size = n) (hn : n ≤ sizeLine)
    (hz : IsZip s.heap z TI TO .none) (hTI : IsPair s.heap TI (.ref i1) (.ref i2)) (hTO : ∃ a b, IsPair s.heap TO a b) (h1 : s.heap.IsListIter i1 l1 0) (h2 : s.heap.IsListIter i2 l2 0) (hl1 : s.heap.IsList l1 xs) (hl2 : s.heap.IsList l2 ys)
    (hQ : ∀ h' acc' c', (∀ b o, b ≠ z → b ≠ TO → b ≠ i1 → b ≠ i2 → s.heap.get? b = some o → h'.get? b = some o) → h'.get? s.heap.objs.size = some { cls := .type "list", dict := none, data := .seq acc' c', slots := #[] } → Laid xs ys h' (s.heap.objs.size + 1) acc' n → Q (.ref s.heap.objs.size) { s with heap := h' }) :
    wpAny (model prog w) A (call (.type "list") [.ref z]) Q E s := by
  refine callType_codes (Q₁ := fun obj s₁ => obj = .ref s.heap.objs.size ∧ s₁ = { s with heap := s.heap.push { cls := .type "list", data := .seq #[] } }) F.called_list (F.typeCall_list_1 _) F.entry_list_init
    (code_list_new _ ⟨rfl, rfl⟩) fun obj s₁ h₁ => ?_
  obtain ⟨rfl, rfl⟩ := h₁
  have hS : (s.heap.push { cls := .type "list", data := .seq #[] }).get? s.heap.objs.size = some { cls := .type "list", data := .seq #[] } := Heap.get?_push_size _ rfl
  obtain ⟨a, b, hTO⟩ := hTO
  have lt1 : ∀ {i l : Addr} {k : Nat}, s.heap.IsListIter i l k → i < s.heap.objs.size := fun ⟨_, e, _⟩ => Heap.lt_size e
  have lt2 : ∀ {l : Addr} {zs : Array Value}, s.heap.IsList l zs → l < s.heap.objs.size := fun ⟨_, e, _⟩ => Heap.lt_size e
  have lk : ∀ {l : Addr} {zs : Array Value}, s.heap.IsList l zs → (s.heap.push { cls := .type "list", data := .seq #[] }).IsList l zs := fun ⟨o, ho, r⟩ => ⟨o, Heap.get?_push_of_some _ ho, r⟩
  have O : ZOff z TI TO i1 i2 l1 l2 s.heap.objs.size (s.heap.objs.size + 1) := ⟨Nat.ne_of_gt (Heap.lt_size hz), Nat.ne_of_gt (Heap.lt_size hTI), Nat.ne_of_gt (Heap.lt_size hTO), Nat.ne_of_gt (lt1 h1), Nat.ne_of_gt (lt1 h2), Nat.ne_of_gt (lt2 hl1), Nat.ne_of_gt (lt2 hl2), Nat.lt_succ_self _,
    Nat.lt_succ_of_lt (Heap.lt_size hz), Nat.lt_succ_of_lt (Heap.lt_size hTO), Nat.lt_succ_of_lt (lt1 h1), Nat.lt_succ_of_lt (lt1 h2)⟩
  refine ⟨⟨_, hS, rfl⟩, F.args_list_init_2 _ _, zl_init (A := A.in1) hh D O n hx hy hn ⟨Heap.get?_push_of_some _ hTI, h1.at fun o e => Heap.get?_push_of_some _ e, h2.at fun o e => Heap.get?_push_of_some _ e, lk hl1, lk hl2, .inl ⟨a, b, Heap.get?_push_of_some _ hz, Heap.get?_push_of_some _ hTO⟩⟩ ⟨_, Heap.get?_push_of_some _ hz⟩ (by rw [Heap.size_push]; exact Nat.le_refl _) hS fun h' acc' c' hk hS' hl => ?_⟩
  exact ⟨rfl, hQ h' acc' c' (fun b o n1 n2 n3 n4 e => hk b o (Nat.ne_of_lt (Heap.lt_size e)) n1 n2 n3 n4 (Heap.get?_push_of_some _ e)) hS' hl⟩
end
/-! ### the places of the new objects -/
def layU (H : Hp) : List (Addr × HO) → Hp
  | [] => H
  | p :: r => layU (upd H p.1 p.2) r
theorem layU_other : ∀ (l : List (Addr × HO)) (H : Hp) (b : Addr), b ∉ l.map (·.1) → layU H l b = H b
  | [], _, _, _ => rfl
  | p :: r, H, b, h => by
    rw [List.map_cons, List.mem_cons, not_or] at h
    show layU (upd H p.1 p.2) r b = _
    rw [layU_other r _ b h.2, upd_ne h.1]
theorem layU_get : ∀ (l : List (Addr × HO)) (H : Hp) (j : Nat) (a : Addr) (o : HO), (l.map (·.1)).Nodup → l[j]? = some (a, o) → layU H l a = some o
  | [], _, _, _, _, _, e => by simp at e
  | p :: r, H, 0, a, o, n, e => by
    have e : p = (a, o) := by simpa using e
    subst e
    rw [List.map_cons, List.nodup_cons] at n
    show layU (upd H a o) r a = _
    rw [layU_other r _ a n.1, upd_same]
  | p :: r, H, j + 1, a, o, n, e => by
    rw [List.map_cons, List.nodup_cons] at n
    exact layU_get r _ j a o n.2 (by simpa using e)
theorem layU_cases : ∀ (l : List (Addr × HO)) (H : Hp) (b : Addr) (u : HO), layU H l b = some u → (∃ j : Nat, l[j]? = some (b, u)) ∨ (b ∉ l.map (·.1) ∧ H b = some u) ∨ b ∈ l.map (·.1)
  | l, H, b, u, e => by
    by_cases h : b ∈ l.map (·.1)
    · exact .inr (.inr h)
    · rw [layU_other l H b h] at e
      exact .inr (.inl ⟨h, e⟩)
theorem refs_of : ∀ (l : List Value), (∀ v ∈ l, ∃ T : Addr, v = Value.ref T) → ∃ Ts : List Addr, l = Ts.map Value.ref
  | [], _ => ⟨[], rfl⟩
  | v :: l, h => by
    obtain ⟨T, e⟩ := h v (List.mem_cons_self ..)
    obtain ⟨Ts, e2⟩ := refs_of l fun u hu => h u (List.mem_cons_of_mem _ hu)
    exact ⟨T :: Ts, by rw [e, e2]; rfl⟩
theorem vrefs : ∀ bs : List Addr, Vals (bs.map V.ref) (bs.map Value.ref)
  | [] => .nil
  | _ :: r => .cons rfl (vrefs r)
/-- many new objects at once -/
theorem laidU {X : Cx} {pins : List (Addr × Obj)} {σ : L2.St} {H : Hp} {s : Shared} {h' : Heap} (I : Inv X pins σ H s) (news : List (Addr × HO)) (k : ∀ b o, s.heap.get? b = some o → h'.get? b = some o)
    (hp : ∀ q ∈ news, s.heap.objs.size ≤ q.1) (nd : (news.map (·.1)).Nodup) (new : ∀ q ∈ news, ObjOk X.prog X.w (layU H news) h' q.1 q.2) : Inv X pins σ (layU H news) { s with heap := h' } ∧ Same H (layU H news) := by
  have o2 : ∀ b, b < s.heap.objs.size → layU H news b = H b := fun b hb => layU_other news H b fun z => by
    obtain ⟨q, hq, e⟩ := List.mem_map.mp z
    exact absurd (Nat.lt_of_lt_of_le hb (e ▸ hp q hq)) (Nat.lt_irrefl _)
  have sm : L2.Same H (layU H news) := fun b o e => by rw [o2 b ((I.hok b o e).lt)]; exact e
  refine ⟨I.un (t' := s.toks) ⟨fun b o q _ _ _ => k b o q, fun b o q _ _ _ => ⟨o.slots, k b o q⟩, fun b o q n _ => by rw [o2 b (Heap.lt_size q)]; exact n, fun b o q _ => ⟨o, k b o q⟩, fun b xs q => sm b _ q, fun b o u q => sm b _ q, fun b ps q => ⟨#[], by rw [sm b _ q]; simp⟩⟩ fun b u e => ?_, Same.of sm⟩
  by_cases hb : b ∈ news.map (·.1)
  · obtain ⟨j, hj⟩ := List.getElem?_of_mem hb
    rw [List.getElem?_map] at hj
    cases hq : news[j]? with
    | none => rw [hq] at hj; cases hj
    | some q =>
      rw [hq] at hj
      have hj : q.1 = b := Option.some.inj hj
      have := layU_get news H j q.1 q.2 nd hq
      rw [hj, e] at this
      cases this
      exact hj ▸ new q (List.mem_of_getElem? hq)
  · rw [layU_other news H b hb] at e
    exact (I.hok b u e).stay (fun c v _ q => k c v q) (fun c q => sm c _ q) fun c xs q => sm c _ q
section
variable {X : Cx} {T : CT} {Fb : Gh} {a b : Expr} {p p2 pos pos2 : Pos}
def tLZ (K : PySem.W.Frag) (ta : TA) : TE := fun σ H Q => ta σ H fun vs H1 => ∃ (a b : Addr) (xs ys : List V), vs = [.ref a, .ref b] ∧ SqL K H1 a xs ∧ SqL K H1 b ys ∧ xs.length = ys.length ∧
  ∀ (p : Addr) (Ts : List Addr) (H2 : Hp), H1 p = none → Same H1 H2 → H2 p = some (.lst (Ts.map V.ref)) → Ts.length = xs.length →
    (∀ (j : Nat) (T : Addr) (x y : V), Ts[j]? = some T → xs[j]? = some x → ys[j]? = some y → T ≠ p ∧ H1 T = none ∧ H2 T = some (.tup [x, y])) → Q (.ref p) H2
theorem pe_lz {ta : TA} (hc : X.calm = true) (hg1 : Gl X "list") (hm1 : X.mg "list" = none) (hg : Gl X "zip") (hm : X.mg "zip" = none) (ha : PA X [a, b] ta)
    (na : starEach [.Call (.Name "zip" p2) [a, b] [] pos2] X.env = (false, eval (.Call (.Name "zip" p2) [a, b] [] pos2) X.env) :: starEach [] X.env := by rfl)
    (hs : starEach [a, b] X.env = (false, eval a X.env) :: starEach [b] X.env := by rfl) (hpl : (backTo pos2 (starEach [b] X.env)).any (·.1) = false := by rfl) :
    PE X (.Call (.Name "list" p) [.Call (.Name "zip" p2) [a, b] [] pos2] [] pos) (tLZ X.K ta) := by
  refine ⟨fun pins s σ H Q I h => ?_⟩
  refine Call_ (ld_blt I hg1 hm1 PyProof.Rows.boot_list (PyProof.Rows.callWith_type1 (args_cons (Call_ (ld_blt I hg hm PyProof.Rows.boot_zip (PyProof.Rows.callWith_type1 (thn (ha.run pos2 pins s σ H _ I h) fun us s1 ⟨vs, H1, I1, r1, q1⟩ => ?_) hs hpl))) na) na))
  obtain ⟨a', b', xs, ys, rfl, hqx, hqy, hl, q⟩ := q1
  cases r1 with
  | cons r rr =>
    cases rr with
    | cons r' rr =>
      cases rr
      cases r
      cases r'
      obtain ⟨its, rv, pl1, hz1⟩ := I1.list hqx
      obtain ⟨its2, rv2, pl2, hz2⟩ := I1.list hqy
      refine call_zip_2 pl1.isList pl2.isList fun h' hz hTI hTO h1 h2 hsz hk => args_nil ?_
      have e1 := rv.length
      have e2 := rv2.length
      have lk : ∀ {l : Addr} {zs : Array Value}, s1.heap.IsList l zs → h'.IsList l zs := fun ⟨o, ho, r⟩ => ⟨o, hk _ _ ho, r⟩
      refine zl_call (s := { s1 with heap := h' }) (I.ok.hd hc) (PySem.W.ktu_apart s1.heap.objs.size a' b' pl1.lt pl2.lt) xs.length (by simp [e1]) (by simp [← e2, hl]) hz1 hz hTI ⟨_, _, hTO⟩ h1 h2 (lk pl1.isList) (lk pl2.isList) fun h2 acc c hk2 hS hL => ?_
      have ne5 : ∀ c o, s1.heap.get? c = some o → ∀ k : Nat, c ≠ s1.heap.objs.size + k := fun c o e k => Nat.ne_of_lt (Nat.lt_of_lt_of_le (Heap.lt_size e) (Nat.le_add_right _ _))
      have hk3 : ∀ c o, s1.heap.get? c = some o → h2.get? c = some o := fun c o e => hk2 c o (ne5 c o e 4) (ne5 c o e 3) (ne5 c o e 0) (ne5 c o e 1) (hk c o e)
      obtain ⟨L1, L2, L3⟩ := hL
      obtain ⟨Ts, hTs⟩ := refs_of acc.toList fun v hv => by
        obtain ⟨j, hj⟩ := List.getElem?_of_mem hv
        obtain ⟨T, _, _, e, _⟩ := L2 j v (by rw [← Array.getElem?_toList]; exact hj)
        exact ⟨T, e⟩
      have hTl : Ts.length = xs.length := by
        have := congrArg List.length hTs
        rw [List.length_map, Array.length_toList, L1] at this
        exact this.symm
      have hTg : ∀ (j : Nat) (T : Addr), Ts[j]? = some T → acc[j]? = some (Value.ref T) := fun j T e => by
        rw [← Array.getElem?_toList, hTs, List.getElem?_map, e]; rfl
      have nd : Ts.Nodup := by
        rw [List.nodup_iff_pairwise_ne, List.pairwise_iff_getElem]
        intro i j hi hj hij e
        have := L3 i j _ (hTg i _ (List.getElem?_eq_getElem hi)) (by rw [e]; exact hTg j _ (List.getElem?_eq_getElem hj))
        omega
      have hge : ∀ T ∈ Ts, h'.objs.size + 1 ≤ T := fun T hT => by
        obtain ⟨j, hj⟩ := List.getElem?_of_mem hT
        obtain ⟨T', _, _, e, _, _, _, hB⟩ := L2 j _ (hTg j T hj)
        cases e
        exact hB
      have hs5 : s1.heap.objs.size ≤ h'.objs.size := by rw [hsz]; exact Nat.le_add_right _ _
      let ps : List HO := List.zipWith (fun x y => HO.tup [x, y]) xs ys
      have hpl : ps.length = xs.length := by show (List.zipWith _ xs ys).length = _; rw [List.length_zipWith]; omega
      let news : List (Addr × HO) := (h'.objs.size, HO.lst (Ts.map V.ref)) :: Ts.zip ps
      have hm1 : (Ts.zip ps).map (·.1) = Ts := List.map_fst_zip (by omega)
      have hzip : ∀ (j : Nat) (T : Addr) (x y : V), Ts[j]? = some T → xs[j]? = some x → ys[j]? = some y → (Ts.zip ps)[j]? = some (T, HO.tup [x, y]) := fun j T x y e1 e2 e3 => by
        rw [List.getElem?_zip_eq_some]
        refine ⟨e1, ?_⟩
        show (List.zipWith _ xs ys)[j]? = _
        rw [List.getElem?_zipWith, e2, e3]
      have nd2 : (news.map (·.1)).Nodup := by
        show (h'.objs.size :: (Ts.zip ps).map (·.1)).Nodup
        rw [hm1, List.nodup_cons]
        exact ⟨fun z => absurd (hge _ z) (Nat.not_succ_le_self _), nd⟩
      obtain ⟨J, sm⟩ := laidU (h' := h2) I1 news hk3 (fun q hq => by
        rcases List.mem_cons.mp hq with rfl | hq
        · exact hs5
        · have : q.1 ∈ Ts := by rw [← hm1]; exact List.mem_map_of_mem hq
          exact Nat.le_trans hs5 (Nat.le_of_succ_le (hge _ this))) nd2 (fun q hq => by
        rcases List.mem_cons.mp hq with rfl | hq
        · refine ⟨by rw [List.length_map, hTl]; exact hz1, Ts.map Value.ref, c, vrefs Ts, ?_⟩
          rw [← hTs, Array.toArray_toList]
          exact hS
        · obtain ⟨j, hj⟩ := List.getElem?_of_mem hq
          rw [List.getElem?_zip_eq_some] at hj
          have hj2 : (List.zipWith (fun x y => HO.tup [x, y]) xs ys)[j]? = some q.2 := hj.2
          rw [List.getElem?_zipWith] at hj2
          cases ex : xs[j]? with
          | none => rw [ex] at hj2; cases hj2
          | some x =>
            cases ey : ys[j]? with
            | none => rw [ex, ey] at hj2; cases hj2
            | some y =>
              rw [ex, ey] at hj2
              have hj2 : HO.tup [x, y] = q.2 := Option.some.inj hj2
              rw [← hj2]
              obtain ⟨u, hu, ru⟩ := rv.get ex
              obtain ⟨u2, hu2, ru2⟩ := rv2.get ey
              obtain ⟨T', x', y', e, ea, eb, hP, _⟩ := L2 j _ (hTg j q.1 hj.1)
              cases e
              have ea' : its[j]? = some x' := by simpa using ea
              have eb' : its2[j]? = some y' := by simpa using eb
              rw [hu] at ea'
              rw [hu2] at eb'
              cases ea'
              cases eb'
              exact ⟨by show 2 ≤ sizeLine; decide, [u, u2], .cons ru (.cons ru2 .nil), ⟨_, hP, rfl, _, rfl⟩⟩)
      refine ⟨.ref h'.objs.size, layU H1 news, J, rfl, q h'.objs.size Ts _ (I1.hok.fresh hs5) sm (layU_get news H1 0 _ _ nd2 rfl) hTl fun j T x y ej ex ey => ⟨fun z => ?_, I1.hok.fresh ?_, layU_get news H1 (j + 1) T _ nd2 (hzip j T x y ej ex ey)⟩⟩
      · have := hge T (List.mem_of_getElem? ej)
        rw [z] at this
        exact absurd this (Nat.not_succ_le_self _)
      · exact Nat.le_trans hs5 (Nat.le_of_succ_le (hge T (List.mem_of_getElem? ej)))
def lzL : List D → Res (List D)
  | [.lst xs, .lst ys] => if xs.length = ys.length then .ok (zipD xs ys) else .bad
  | _ => .bad
theorem repL_of {G : Gx} {H : Hp} {Av : Addr → Prop} : ∀ {ds : List D} {vs : List V}, ds.length = vs.length → (∀ (j : Nat) (d : D) (v : V), ds[j]? = some d → vs[j]? = some v → Rep G H Av d v) → RepL G H Av ds vs
  | [], [], _, _ => rfl
  | [], _ :: _, h, _ => by simp at h
  | _ :: _, [], h, _ => by simp at h
  | d :: ds, v :: vs, h, f => RepL.cons (f 0 d v rfl rfl) (repL_of (by simpa using h) fun j d' v' h1 h2 => f (j + 1) d' v' (by simpa using h1) (by simpa using h2))
theorem mf_lz {ms : Env → Res (List D)} (hm1 : X.mg "list" = none) (hm : X.mg "zip" = none) (hc : X.calm = true) (ha : ML T Fb X [a, b] ms) (hg1 : Gl X "list" := by rfl) (hg : Gl X "zip" := by rfl)
    (na : starEach [.Call (.Name "zip" p2) [a, b] [] pos2] X.env = (false, eval (.Call (.Name "zip" p2) [a, b] [] pos2) X.env) :: starEach [] X.env := by rfl)
    (hs : starEach [a, b] X.env = (false, eval a X.env) :: starEach [b] X.env := by rfl) (hpl : (backTo pos2 (starEach [b] X.env)).any (·.1) = false := by rfl) :
    MF T Fb X (.Call (.Name "list" p) [.Call (.Name "zip" p2) [a, b] [] pos2] [] pos) (mArg lzL ms) := by
  refine ⟨fun σ H F ρ Q S o => (pe_lz hc hg1 hm1 hg hm pa_tw na hs hpl).tw ?_⟩
  refine ha.run σ H F ρ _ S (o.bind.imp fun ds _ o1 ws H1 s r => ?_)
  match ds, o1 with
  | [.lst xs, .lst ys], o1 =>
    obtain ⟨v, vr, rfl, ⟨p1, us, rfl, ⟨h1, n1⟩, r1⟩, w, vr2, rfl, ⟨p2, us2, rfl, ⟨h2, n2⟩, r2⟩, r3⟩ := r
    have r3 : vr2 = [] := r3
    subst r3
    have l1 := r1.length
    have l2 := r2.length
    by_cases hl : xs.length = ys.length
    · have o1 : Out X T σ H (if xs.length = ys.length then .ok (zipD xs ys) else .bad) _ := o1
      rw [if_pos hl] at o1
      refine ⟨p1, p2, us, us2, rfl, SqL.of h1, SqL.of h2, by omega, fun p Ts H2 hp sm hP hTl hT => ?_⟩
      refine o1 p (Ts.map V.ref) H2 (s.free hp) (s.trans sm) hP (repL_of (by rw [List.length_map, hTl]; unfold zipD; rw [List.length_zipWith]; omega) fun j d v ed ev => ?_)
      rw [List.getElem?_map] at ev
      unfold zipD at ed
      rw [List.getElem?_zipWith] at ed
      cases ex : xs[j]? with
      | none => rw [ex] at ed; cases ed
      | some x =>
        cases ey : ys[j]? with
        | none => rw [ex, ey] at ed; cases ed
        | some y =>
          rw [ex, ey] at ed
          cases ed
          cases et : Ts[j]? with
          | none => rw [et] at ev; cases ev
          | some t =>
            rw [et] at ev
            cases ev
            obtain ⟨x', e1, e2⟩ := r1.get ex
            obtain ⟨y', e3, e4⟩ := r2.get ey
            obtain ⟨q1, q2, q3⟩ := hT j t x' y' et e1 e3
            have kp : Kept H1 H2 (avo Fb F) (fun a => a = p ∨ avo Fb F a) := ⟨fun a o e _ => sm a o e, fun a z => z.elim (fun e => .inr (by rw [e]; exact hp)) .inl⟩
            refine ⟨t, [x', y'], rfl, .inl ⟨q3, fun z => ?_⟩, RepL.cons (Rep.mono kp _ e2) (RepL.cons (Rep.mono kp _ e4) rfl)⟩
            rcases z with z | z
            · exact q1 z
            · exact (S.same s).av t z q2
    · have o1 : Out X T σ H (if xs.length = ys.length then .ok (zipD xs ys) else .bad) _ := o1
      rw [if_neg hl] at o1
      exact False.elim o1
end
end Cr
/-! Core, part 20: C(x), x a list that its maker goes on to change. -/
namespace Cr
open PySem PySem.Spec PyProof.Rows L2
mutual
def beqD : D → D → Bool
  | .non, .non => true
  | .bl a, .bl b => a == b
  | .int a, .int b => decide (a = b)
  | .str a, .str b => decide (a = b)
  | .tup a, .tup b => beqDs a b
  | _, _ => false
def beqDs : List D → List D → Bool
  | [], [] => true
  | x :: xs, y :: ys => beqD x y && beqDs xs ys
  | _, _ => false
end
/-! no list, no object within -/
mutual
def plD : D → Bool
  | .non => true
  | .bl _ => true
  | .int _ => true
  | .str _ => true
  | .tup ds => plDs ds
  | _ => false
def plDs : List D → Bool
  | [] => true
  | d :: ds => plD d && plDs ds
end
mutual
def noAl (ls : List D) : D → Bool
  | .lst ds => plDs ds && !(beqDs ds ls)
  | .tup ds => noAls ls ds
  | .obj _ ds => noAls ls ds
  | .scr _ => false
  | _ => true
def noAls (ls : List D) : List D → Bool
  | [] => true
  | d :: ds => noAl ls d && noAls ls ds
end
mutual
theorem beqD_refl : ∀ d : D, plD d = true → beqD d d = true
  | .non, _ => rfl
  | .bl b, _ => by show (b == b) = true; simp
  | .int i, _ => by show decide (i = i) = true; simp
  | .str i, _ => by show decide (i = i) = true; simp
  | .tup ds, h => beqDs_refl ds h
  | .lst ds, h => by cases h
  | .obj _ ds, h => by cases h
  | .scr _, h => by cases h
theorem beqDs_refl : ∀ ds : List D, plDs ds = true → beqDs ds ds = true
  | [], _ => rfl
  | d :: ds, h => by
    have h : (plD d && plDs ds) = true := h
    rw [Bool.and_eq_true] at h
    show (beqD d d && beqDs ds ds) = true
    rw [beqD_refl d h.1, beqDs_refl ds h.2]; rfl
end
/-- a place holds one tuple -/
def OneT (G : Gx) (H : Hp) : Prop := ∀ a xs ys, (H a = some (.tup xs) ∨ KTup G.K a xs) → (H a = some (.tup ys) ∨ KTup G.K a ys) → xs = ys
section
variable {G : Gx} {H : Hp} {A A' : Addr → Prop}
mutual
theorem pl_fun (J : OneT G H) : ∀ (d d' : D) {v : V}, Rep G H A d v → Rep G H A' d' v → plD d = true → plD d' = true → d = d'
  | d, d', v, h, h', q, q' => by
    cases d with
    | lst => cases q
    | obj => cases q
    | scr => cases q
    | non =>
      have h : v = .non := h
      subst h
      cases d' with
      | non => rfl
      | bl => cases (show V.non = _ from h')
      | int => cases (show V.non = _ from h')
      | str => cases (show V.non = _ from h')
      | tup => obtain ⟨_, _, e, _⟩ := h'; cases e
      | lst => cases q'
      | obj => cases q'
      | scr => cases q'
    | bl b =>
      have h : v = .bl b := h
      subst h
      cases d' with
      | non => cases (show V.bl b = _ from h')
      | bl => cases (show V.bl b = _ from h'); rfl
      | int => cases (show V.bl b = _ from h')
      | str => cases (show V.bl b = _ from h')
      | tup => obtain ⟨_, _, e, _⟩ := h'; cases e
      | lst => cases q'
      | obj => cases q'
      | scr => cases q'
    | int b =>
      have h : v = .int b := h
      subst h
      cases d' with
      | non => cases (show V.int b = _ from h')
      | bl => cases (show V.int b = _ from h')
      | int => cases (show V.int b = _ from h'); rfl
      | str => cases (show V.int b = _ from h')
      | tup => obtain ⟨_, _, e, _⟩ := h'; cases e
      | lst => cases q'
      | obj => cases q'
      | scr => cases q'
    | str b =>
      have h : v = .str b := h
      subst h
      cases d' with
      | non => cases (show V.str b = _ from h')
      | bl => cases (show V.str b = _ from h')
      | int => cases (show V.str b = _ from h')
      | str => cases (show V.str b = _ from h'); rfl
      | tup => obtain ⟨_, _, e, _⟩ := h'; cases e
      | lst => cases q'
      | obj => cases q'
      | scr => cases q'
    | tup ds =>
      obtain ⟨a, vs, rfl, h1, h2⟩ := h
      cases d' with
      | non => cases (show V.ref a = _ from h')
      | bl => cases (show V.ref a = _ from h')
      | int => cases (show V.ref a = _ from h')
      | str => cases (show V.ref a = _ from h')
      | tup ds' =>
        obtain ⟨a', vs', e, h1', h2'⟩ := h'
        cases e
        have := J a vs vs' (h1.imp (·.1) id) (h1'.imp (·.1) id)
        subst this
        rw [pls_fun J ds ds' h2 h2' q q']
      | lst => cases q'
      | obj => cases q'
      | scr => cases q'
theorem pls_fun (J : OneT G H) : ∀ (ds ds' : List D) {vs : List V}, RepL G H A ds vs → RepL G H A' ds' vs → plDs ds = true → plDs ds' = true → ds = ds'
  | [], [], _, _, _, _, _ => rfl
  | [], d :: ds, vs, h, h', _, _ => by
    have h : vs = [] := h
    obtain ⟨v, vr, e, _⟩ := h'
    rw [h] at e; cases e
  | d :: ds, [], vs, h, h', _, _ => by
    have h' : vs = [] := h'
    obtain ⟨v, vr, e, _⟩ := h
    rw [h'] at e; cases e
  | d :: ds, d' :: ds', vs, h, h', q, q' => by
    obtain ⟨v, vr, rfl, h1, h2⟩ := h
    obtain ⟨v', vr', e, h1', h2'⟩ := h'
    cases e
    have q : (plD d && plDs ds) = true := q
    have q' : (plD d' && plDs ds') = true := q'
    rw [Bool.and_eq_true] at q q'
    rw [pl_fun J d d' h1 h1' q.1 q'.1, pls_fun J ds ds' h2 h2' q.2 q'.2]
end
mutual
theorem rep_noAl (J : OneT G H) {p : Addr} {ws : List V} {ls : List D} (hp : H p = some (.lst ws)) (hl : RepL G H A' ls ws) (hq : plDs ls = true) : ∀ (d : D) {v : V}, Rep G H A d v → noAl ls d = true → Rep G H (fun a => a = p ∨ A a) d v
  | .non, v, h, _ => h
  | .bl b, v, h, _ => h
  | .int i, v, h, _ => h
  | .str x, v, h, _ => h
  | .tup ds, v, h, q => by
    obtain ⟨a, vs, e, h1, h2⟩ := h
    refine ⟨a, vs, e, ?_, repL_noAl J hp hl hq ds h2 q⟩
    rcases h1 with ⟨h1, n⟩ | h1
    · exact .inl ⟨h1, fun z => z.elim (fun e => by rw [e, hp] at h1; cases h1) n⟩
    · exact .inr h1
  | .obj c ds, v, h, q => by
    obtain ⟨a, dx, vs, e, ⟨h1, n⟩, hl', h2⟩ := h
    exact ⟨a, dx, vs, e, ⟨h1, fun z => z.elim (fun e => by rw [e, hp] at h1; cases h1) n⟩, hl', repL_noAl J hp hl hq ds h2 q⟩
  | .lst ds, v, h, q => by
    have q : (plDs ds && !(beqDs ds ls)) = true := q
    rw [Bool.and_eq_true] at q
    obtain ⟨a, vs, e, ⟨h1, n⟩, h2⟩ := h
    refine ⟨a, vs, e, ⟨h1, fun z => z.elim (fun e => ?_) n⟩, repL_pl hp ds h2 q.1⟩
    rw [e, hp] at h1
    cases h1
    have := pls_fun J ds ls h2 hl q.1 hq
    rw [this, beqDs_refl ls hq] at q
    exact absurd q.2 (by decide)
  | .scr ns, v, h, q => by cases q
theorem repL_noAl (J : OneT G H) {p : Addr} {ws : List V} {ls : List D} (hp : H p = some (.lst ws)) (hl : RepL G H A' ls ws) (hq : plDs ls = true) : ∀ (ds : List D) {vs : List V}, RepL G H A ds vs → noAls ls ds = true → RepL G H (fun a => a = p ∨ A a) ds vs
  | [], vs, h, _ => h
  | d :: ds, vs, h, q => by
    obtain ⟨v, vr, e, h1, h2⟩ := h
    have q : (noAl ls d && noAls ls ds) = true := q
    rw [Bool.and_eq_true] at q
    exact ⟨v, vr, e, rep_noAl J hp hl hq d h1 q.1, repL_noAl J hp hl hq ds h2 q.2⟩
theorem rep_pl {p : Addr} {ws : List V} (hp : H p = some (.lst ws)) : ∀ (d : D) {v : V}, Rep G H A d v → plD d = true → Rep G H (fun a => a = p ∨ A a) d v
  | .non, v, h, _ => h
  | .bl b, v, h, _ => h
  | .int i, v, h, _ => h
  | .str x, v, h, _ => h
  | .tup ds, v, h, q => by
    obtain ⟨a, vs, e, h1, h2⟩ := h
    refine ⟨a, vs, e, ?_, repL_pl hp ds h2 q⟩
    rcases h1 with ⟨h1, n⟩ | h1
    · exact .inl ⟨h1, fun z => z.elim (fun e => by rw [e, hp] at h1; cases h1) n⟩
    · exact .inr h1
  | .obj c ds, v, h, q => by cases q
  | .lst ds, v, h, q => by cases q
  | .scr ns, v, h, q => by cases q
theorem repL_pl {p : Addr} {ws : List V} (hp : H p = some (.lst ws)) : ∀ (ds : List D) {vs : List V}, RepL G H A ds vs → plDs ds = true → RepL G H (fun a => a = p ∨ A a) ds vs
  | [], vs, h, _ => h
  | d :: ds, vs, h, q => by
    obtain ⟨v, vr, e, h1, h2⟩ := h
    have q : (plD d && plDs ds) = true := q
    rw [Bool.and_eq_true] at q
    exact ⟨v, vr, e, rep_pl hp d h1 q.1, repL_pl hp ds h2 q.2⟩
end
end
def lentD (ds : List D) (d : D) : Res D := match ds with
  | [.lst ls] => if plDs ls && noAl ls d then .ok d else .bad
  | _ => .bad
def lent1 : List D → Res (List D)
  | [.lst ls] => .ok [.lst ls]
  | _ => .bad
def mMkO (c : Nat) (mf : List D → Res (List D)) (ms : Env → Res (List D)) : Env → Res D := fun ρ => ms ρ >>= fun ds => lent1 ds >>= fun ds => mf ds >>= fun fs => lentD ds (.obj c fs)
section
variable {T : CT} {Fb : Gh} {X : Cx} {e : Expr} {pos p : Pos} {x : Str} {k n : Nat}
theorem oneT {pins : List (Addr × Obj)} {σ : L2.St} {H : Hp} {s : Shared} (I : Inv X pins σ H s) : OneT (gx X T) H := fun a xs ys h h' => by
  have f : ∀ zs, (H a = some (.tup zs) ∨ KTup X.K a zs) → SqT X.K H a zs := fun zs h => tup_sq (G := gx X T) (Av := fun _ => False) (h.elim (fun z => .inl ⟨z, fun e => e⟩) .inr)
  exact I.tuple_inj (f xs h) (f ys h')
theorem me_makeO {c : Nat} {mf : List D → Res (List D)} {ms : Env → Res (List D)} (F : MkAt X.prog X.w X.K X.mg X.base T k c x 1 mf) (hr : Room (k + 1) X.A) (ha : MLb T Fb X [e] ms) (hg : Gl X x := by rfl) (hdb : (x == ("__debug__" : Str)) = false := by decide)
    (he : starEach [e] X.env = (false, eval e X.env) :: starEach [] X.env := by rfl) (hpl : (backTo pos (starEach [] X.env)).any (·.1) = false := by rfl) : ME T Fb X (.Call (.Name x p) [e] [] pos) (mMkO c mf ms) := by
  obtain ⟨f, fd, ps, F, hm, M, hb⟩ := F.ex
  refine ⟨fun σ H Fo ρ Q S o pins s I => ?_⟩
  have base : wpAny (model X.prog X.w) X.A (eval (.Call (.Name x p) [e] [] pos) X.env) (EP X pins σ fun v H' => ∃ (q : Addr) (ls : List D) (ws : List V) (fs : List D), ms ρ = .ok [.lst ls] ∧ mf [.lst ls] = .ok fs ∧ Same H H' ∧
      Rep (gx X T) H' (fun a => avo Fb Fo a ∧ a ≠ q) (.obj c fs) v ∧ H' q = some (.lst ws) ∧ RepL (gx X T) H' (avo Fb Fo) ls ws) X.xe s := by
    refine wpAny_Call_Name_kw (ld_glob I hg hm ?_ hdb)
    have args : TWa X [e] σ H fun vs H1 => ∃ E : XK, PassesAt (L2.CX X.prog X.w) X σ E ∧ ∀ x dx, H1 x = none → H1 dx = none → dx ≠ x →
        spI X.K T c 1 mf (.ref x :: vs) (upd (upd H1 dx (.own x)) x (.ins (T.addr c) dx [])) (fun v H2 => v = .non ∧ (fun v H' => ∃ (q : Addr) (ls : List D) (ws : List V) (fs : List D), ms ρ = .ok [.lst ls] ∧ mf [.lst ls] = .ok fs ∧ Same H H' ∧
          Rep (gx X T) H' (fun a => avo Fb Fo a ∧ a ≠ q) (.obj c fs) v ∧ H' q = some (.lst ws) ∧ RepL (gx X T) H' (avo Fb Fo) ls ws) (.ref x) H2) E := by
      refine ha.run σ H Fo ρ _ S (o.bind.imp fun ds e1 o1 vs H1 s1 r1 => ?_)
      obtain ⟨ls, rfl⟩ : ∃ ls, ds = [.lst ls] := by
        match ds, o1 with
        | [.lst ls], _ => exact ⟨ls, rfl⟩
        | [], o1 => exact False.elim o1
        | [.non], o1 => exact False.elim o1
        | [.bl _], o1 => exact False.elim o1
        | [.int _], o1 => exact False.elim o1
        | [.str _], o1 => exact False.elim o1
        | [.tup _], o1 => exact False.elim o1
        | [.obj _ _], o1 => exact False.elim o1
        | [.scr _], o1 => exact False.elim o1
        | a :: b :: r, o1 => exact False.elim (show Out X T σ H (Res.bad : Res D) _ from (by cases a <;> exact o1))
      · skip
        obtain ⟨v0, rfl, r2⟩ : ∃ v0, vs = [v0] ∧ RepB (gx X T) H1 (avo Fb Fo) (.lst ls) v0 := by
          cases r1 with
          | cons r rr => cases rr; exact ⟨_, rfl, r⟩
        obtain ⟨q, ws, rfl, hq, hls⟩ := r2
        have S1 := S.same s1
        have hA : ∀ a, (avo Fb Fo a ∧ a ≠ q) → H1 a ≠ none := fun a z => S1.av a z.1
        have up : ∀ {x dx : Addr}, H1 x = none → H1 dx = none → dx ≠ x → Same H1 (upd (upd H1 dx (.own x)) x (.ins (T.addr c) dx [])) := fun {x dx} hx hd ne a o e => by
          rw [upd_ne (ne_of_none e hx), upd_ne (ne_of_none e hd)]; exact .of e
        have arg : ∀ {x dx : Addr}, H1 x = none → H1 dx = none → dx ≠ x → RepL (gx X T) (upd (upd H1 dx (.own x)) x (.ins (T.addr c) dx [])) (fun a => a = x ∨ (avo Fb Fo a ∧ a ≠ q)) [.lst ls] [.ref q] := fun {x dx} hx hd ne => by
          refine RepL.cons ⟨q, ws, rfl, ⟨up hx hd ne q _ hq, fun z => z.elim (fun e => ne_of_none hq hx e) fun y => y.2 rfl⟩, ?_⟩ rfl
          exact RepL.mono ⟨fun a o e _ => up hx hd ne a o e, fun a z => z.elim (fun e => .inr (by rw [e]; exact hx)) fun y => .inl y.1⟩ ls hls
        have fin : ∀ {x : Addr} {H' H'' : Hp}, H1 x = none → (∀ a o, H' a = some o → a ≠ x → Lke o (H'' a)) → Same H1 H' → Same H1 H'' := fun {x H' H''} hx f s a o e => (s a o e).trans fun o' h' => f a o' h' (ne_of_none e hx)
        have o1 : Out X T σ H (mf [.lst ls] >>= fun fs => lentD [.lst ls] (.obj c fs)) _ := o1
        cases qm : mf [.lst ls] with
        | ok fs =>
          refine ⟨E0, fun _ _ _ _ _ _ h => by obtain ⟨_, _, _, _, _, _, _, _, _, _, _, _, z⟩ := h; exact z.elim, fun x dx hx hd ne => ?_⟩
          refine ⟨rfl, (S1.same (up hx hd ne)).tbs, (fun a => avo Fb Fo a ∧ a ≠ q), [.lst ls], x, dx, [.ref q], rfl, fun a z => (S1.same (up hx hd ne)).av a z.1, fun z => avo_no S1.av hx z.1, upd_same, arg hx hd ne, ?_⟩
          rw [qm]
          intro H' k r
          have s2 := fin hx k (up hx hd ne)
          exact ⟨rfl, q, ls, ws, fs, e1, qm, s1.trans s2, r, s2 _ _ hq, RepL.same hls s2⟩
        | err z =>
          rw [qm] at o1
          obtain ⟨W, tk, f⟩ := o1
          refine ⟨WE W σ, passAt tk σ, fun x dx hx hd ne => ?_⟩
          refine ⟨rfl, (S1.same (up hx hd ne)).tbs, (fun a => avo Fb Fo a ∧ a ≠ q), [.lst ls], x, dx, [.ref q], rfl, fun a z => (S1.same (up hx hd ne)).av a z.1, fun z => avo_no S1.av hx z.1, upd_same, arg hx hd ne, ?_⟩
          rw [qm]
          exact fun cls d H' k r => f cls d H' (s1.trans (fin hx k (up hx hd ne))) r
        | bad => rw [qm] at o1; exact False.elim o1
    refine PySem.W.callWith_K (h₀ := X.base) I.ok.mod.kin M.kp (thn (args pos pins s I) fun us s1 ⟨vs, H1, I1, r, E, hx, q⟩ => ⟨I1.kIn, ?_⟩) he hpl
    exact run_makeS M F hr hb hx I1 r q
  refine thn base fun u s2 ⟨v, H2, I2, rv, q, ls, ws, fs, e1, e2, s2', r, hq, hls⟩ => ⟨v, H2, I2, rv, ?_⟩
  have o : Out X T σ H (ms ρ >>= fun ds => lent1 ds >>= fun ds => mf ds >>= fun fs => lentD ds (.obj c fs)) _ := o
  rw [e1] at o
  have o : Out X T σ H (mf [.lst ls] >>= fun fs => lentD [.lst ls] (.obj c fs)) _ := o
  rw [e2] at o
  have o : Out X T σ H (if plDs ls && noAl ls (D.obj c fs) then Res.ok (D.obj c fs) else .bad) _ := o
  by_cases hc : (plDs ls && noAl ls (.obj c fs)) = true
  · rw [if_pos hc] at o
    rw [Bool.and_eq_true] at hc
    refine o v H2 s2' (Rep.mono ⟨fun a o e _ => .of e, fun a z => ?_⟩ _ (rep_noAl (oneT I2) hq hls hc.1 _ r hc.2))
    by_cases ea : a = q
    · exact .inl (.inl ea)
    · exact .inl (.inr ⟨z, ea⟩)
  · rw [if_neg hc] at o
    exact False.elim o
end
end Cr
/-! Core, part 21: all(..), any(..) of a generator expression whose element is quiet. -/
namespace Cr
open PySem PySem.Spec PyProof.Rows L2
structure QC (mg : Str → Option Value) (hr : Heap) (cenv : PySem.Env) : Prop where
  kind : cenv.scope.kind = .function
  glob : cenv.globals = mainGlobals
  blt : cenv.builtins = builtinsNs
  ns : hr.Ns mainGlobals mg
  bns : ∃ mb, hr.Ns builtinsNs mb ∧ ∀ x : Str, x ≠ "__name__" → mb x = bootBuiltins x
/-- nothing that was there is lost, but for bare records -/
def QK (hr h : Heap) : Prop := ∀ b o, hr.get? b = some o → (∀ ps, o.data ≠ .fields ps) → h.get? b = some o
structure QSt (hr : Heap) (cenv : PySem.Env) (loc : List (Str × Value)) (s : Shared) : Prop where
  loc : ∃ m, s.heap.Ns cenv.locals m ∧ ∀ x v, loc.lookup x = some v → m x = some v
  keep : QK hr s.heap
theorem QK.ns {hr h : Heap} {a : Addr} {m : Str → Option Value} (k : QK hr h) (n : hr.Ns a m) : h.Ns a m := by
  obtain ⟨o, es, ep, ho, hd, r⟩ := n
  exact ⟨o, es, ep, k a o ho (fun ps z => by rw [hd] at z; cases z), hd, r⟩
theorem QK.cell {hr h : Heap} {c : Addr} {v : Option Value} (k : QK hr h) (n : hr.IsCell c v) : h.IsCell c v := by
  obtain ⟨o, ho, hd⟩ := n
  exact ⟨o, k c o ho (fun ps z => by rw [hd] at z; cases z), hd⟩
theorem QK.list {hr h : Heap} {a : Addr} {xs : Array Value} (k : QK hr h) (n : hr.IsList a xs) : h.IsList a xs := by
  obtain ⟨o, ho, hc, n, hd⟩ := n
  exact ⟨o, k a o ho (fun ps z => by rw [hd] at z; cases z), hc, n, hd⟩
theorem QK.tup {hr h : Heap} {a : Addr} {xs : Array Value} (k : QK hr h) (n : hr.IsTuple a xs) : h.IsTuple a xs := by
  obtain ⟨o, ho, hc, n, hd⟩ := n
  exact ⟨o, k a o ho (fun ps z => by rw [hd] at z; cases z), hc, n, hd⟩
theorem QSt.keeps {hr : Heap} {cenv : PySem.Env} {loc : List (Str × Value)} {s s' : Shared} (q : QSt hr cenv loc s) (k : Keeps s s') : QSt hr cenv loc s' := by
  obtain ⟨h, tk, rfl, kk⟩ := k
  obtain ⟨m, n, f⟩ := q.loc
  exact ⟨⟨m, n.at' fun o e => kk _ o e, f⟩, fun b o e d => kk b o (q.keep b o e d)⟩
theorem keeps_refl (s : Shared) : Keeps s s := ⟨s.heap, s.toks, rfl, fun _ _ e => e⟩
theorem keeps_tok (s : Shared) (k : Nat) : Keeps s { s with toks := k } := ⟨s.heap, k, rfl, fun _ _ e => e⟩
theorem kTr {s s1 s2 : Shared} (a : Keeps s s1) (b : Keeps s1 s2) : Keeps s s2 := by
  obtain ⟨h, tk, rfl, k⟩ := a
  obtain ⟨h2, tk2, rfl, k2⟩ := b
  exact ⟨h2, tk2, rfl, fun b o e => k2 b o (k b o e)⟩
/-- e is read to something of which P holds; nothing is lost -/
def Qe (prog : Program) (w : World) (hr : Heap) (cenv : PySem.Env) (loc : List (Str × Value)) (e : Expr) (P : Value → Prop) : Prop :=
  ∀ (A : Around) (E : Value → Shared → Prop) (s : Shared), A.handled = none → QSt hr cenv loc s → wpAny (model prog w) A (eval e cenv) (fun y s' => P y ∧ Keeps s s') E s
section
variable {prog : Program} {w : World} {mg : Str → Option Value} {hr : Heap} {cenv : PySem.Env} {loc : List (Str × Value)} {x : Str} {pos p : Pos} {e a b c d : Expr} {P Pa Pb Pc Pd : Value → Prop}
theorem q_local (C : QC mg hr cenv) {v : Value} (hl : cenv.kindOf x = some .local) (hv : loc.lookup x = some v) (hd : (x == ("__debug__" : Str)) = false := by decide) : Qe prog w hr cenv loc (.Name x pos) (· = v) := by
  intro A E s hA q
  obtain ⟨m, n, f⟩ := q.loc
  exact wpAny_Name (wpAny_loadName_local C.kind hl n (f _ _ hv) ⟨rfl, keeps_refl s⟩) hd
theorem q_glob (C : QC mg hr cenv) {v : Value} (hl : cenv.kindOf x = some .globalImplicit) (hv : mg x = some v) (hd : (x == ("__debug__" : Str)) = false := by decide) : Qe prog w hr cenv loc (.Name x pos) (· = v) := by
  intro A E s hA q
  exact Calls.Name_function_global C.kind hl (Calls.loadGlobal_global (by rw [C.glob]; exact q.keep.ns C.ns) hv ⟨rfl, keeps_refl s⟩) hd
theorem q_free (C : QC mg hr cenv) {v : Value} {c : Addr} (hl : cenv.kindOf x = some .free) (hc : cenv.cells.lookup x = some c) (hv : hr.IsCell c (some v)) (hd : (x == ("__debug__" : Str)) = false := by decide) (hn : (x == ("__classdict__" : Str)) = false := by decide) : Qe prog w hr cenv loc (.Name x pos) (· = v) := by
  intro A E s hA q
  exact wpAny_Name (wpAny_loadName_free C.kind hl hc (q.keep.cell hv) ⟨rfl, keeps_refl s⟩ hn) hd
theorem q_int {i : Int} {j : Nat} : Qe prog w hr cenv loc (.Constant (.int i) j pos) (fun y => ∃ t, y = .int i t) := by
  intro A E s hA q
  refine wpAny_Constant_int ?_
  exact ⟨⟨_, rfl⟩, keeps_tok s _⟩
theorem q_str {i : Str} {j : Nat} : Qe prog w hr cenv loc (.Constant (.str i) j pos) (fun y => ∃ t, y = .str i t) := by
  intro A E s hA q
  refine Calls.Constant_str ?_
  exact ⟨⟨_, rfl⟩, keeps_tok s _⟩
theorem Qe.imp (h : Qe prog w hr cenv loc e P) (f : ∀ y, P y → Pa y) : Qe prog w hr cenv loc e Pa := fun A E s hA q => wpAny_mono (h A E s hA q) (fun y s' r => ⟨f y r.1, r.2⟩) fun _ _ z => z
/-- an int -/
def IsI (i : Int) (y : Value) : Prop := ∃ t, y = .int i t
theorem q_len (C : QC mg hr cenv) {n : Nat} (hg : cenv.kindOf ("len" : Str) = some .globalImplicit) (hm : mg "len" = none) (ha : Qe prog w hr cenv loc a (fun y => ∃ (l : Addr) (xs : Array Value), y = .ref l ∧ hr.IsList l xs ∧ xs.size = n ∧ n ≤ sizeLine))
    (hs : starEach [a] cenv = (false, eval a cenv) :: starEach [] cenv := by rfl) : Qe prog w hr cenv loc (.Call (.Name "len" p) [a] [] pos) (IsI n) := by
  intro A E s hA q
  obtain ⟨mb, n1, n2⟩ := C.bns
  refine wpAny_Call_Name_kw (Calls.Name_function_global C.kind hg (Calls.loadGlobal_builtin (by rw [C.glob]; exact q.keep.ns C.ns) hm (by rw [C.blt]; exact q.keep.ns n1) ((n2 "len" (by decide)).trans PySem.boot_len) ?_) (by decide))
  refine PyProof.Rows.callWith_builtin1 ?_ hs (by rfl)
  rw [hs]
  show wpAny _ _ (spliced ((false, eval a cenv) :: backTo pos (starEach [] cenv))) _ _ s
  refine Calls.spliced_cons (wpAny_mono (ha A E s hA q) (fun y s1 r => ?_) fun _ _ z => z)
  obtain ⟨⟨l, xs, rfl, hl, hxn, hz⟩, k⟩ := r
  refine Calls.spliced_nil ?_
  have hn := line63
  refine Calls.call_len_list ((q.keeps k).keep.list hl) (by omega) ?_
  exact ⟨⟨_, by rw [hxn]⟩, kTr k (keeps_tok s1 _)⟩
/-! ### comparisons -/
def OpI (op : CmpOp) (f : Int → Int → Bool) : Prop := ∀ {prog : Program} {w : World} {A : Around} {E Q : Value → Shared → Prop} {s : Shared} {a b : Int} {t u : Tok}, Q (.bool (f a b)) s → wpAny (model prog w) A (compareOp op (.int a t) (.int b u)) Q E s
theorem opI_le : OpI .LtE fun a b => decide (a ≤ b) := PySem.P.le_int
theorem opI_lt : OpI .Lt fun a b => decide (a < b) := PySem.P.lt_int
section
variable {op op' op'' : CmpOp} {f f' f'' : Int → Int → Bool} {i j k l : Int}
/-- a op b op' c, ints -/
theorem q_chain2 (ho : OpI op f) (ho' : OpI op' f') (ha : Qe prog w hr cenv loc a (IsI i)) (hb : Qe prog w hr cenv loc b (IsI j)) (hc : f i j = true → Qe prog w hr cenv loc c (IsI k)) (hm : lastMarks [op, op'] [b, c] = false := by with_unfolding_all rfl) :
    Qe prog w hr cenv loc (.Compare a [op, op'] [b, c] pos) (· = .bool (f i j && f' j k)) := by
  intro A E s hA q
  refine Compare_chain (wpAny_mono (ha A E s hA q) (fun y s1 r => ?_) fun _ _ z => z) hm
  obtain ⟨⟨t, rfl⟩, k1⟩ := r
  refine chain_link (wpAny_mono (hb A E s1 hA (q.keeps k1)) (fun y s2 r => ?_) fun _ _ z => z)
  obtain ⟨⟨t2, rfl⟩, k2⟩ := r
  have k12 := kTr k1 k2
  refine ho (wpAny_truthy_bool ?_)
  cases hf : f i j with
  | false => exact ⟨rfl, k12⟩
  | true =>
    refine chain_last (wpAny_mono (hc hf A E s2 hA (q.keeps k12)) (fun y s3 r => ?_) fun _ _ z => z)
    obtain ⟨⟨t3, rfl⟩, k3⟩ := r
    exact ho' ⟨rfl, kTr k12 k3⟩
/-- a op b op' c op'' d, ints -/
theorem q_chain3 (ho : OpI op f) (ho' : OpI op' f') (ho'' : OpI op'' f'') (ha : Qe prog w hr cenv loc a (IsI i)) (hb : Qe prog w hr cenv loc b (IsI j)) (hc : f i j = true → Qe prog w hr cenv loc c (IsI k)) (hd : f i j = true → f' j k = true → Qe prog w hr cenv loc d (IsI l)) (hm : lastMarks [op, op', op''] [b, c, d] = false := by with_unfolding_all rfl) :
    Qe prog w hr cenv loc (.Compare a [op, op', op''] [b, c, d] pos) (· = .bool (f i j && (f' j k && f'' k l))) := by
  intro A E s hA q
  refine Compare_chain (wpAny_mono (ha A E s hA q) (fun y s1 r => ?_) fun _ _ z => z) hm
  obtain ⟨⟨t, rfl⟩, k1⟩ := r
  refine chain_link (wpAny_mono (hb A E s1 hA (q.keeps k1)) (fun y s2 r => ?_) fun _ _ z => z)
  obtain ⟨⟨t2, rfl⟩, k2⟩ := r
  have k12 := kTr k1 k2
  refine ho (wpAny_truthy_bool ?_)
  cases hf : f i j with
  | false => exact ⟨rfl, k12⟩
  | true =>
    refine chain_link (wpAny_mono (hc hf A E s2 hA (q.keeps k12)) (fun y s3 r => ?_) fun _ _ z => z)
    obtain ⟨⟨t3, rfl⟩, k3⟩ := r
    have k123 := kTr k12 k3
    refine ho' (wpAny_truthy_bool ?_)
    cases hf' : f' j k with
    | false => exact ⟨rfl, k123⟩
    | true =>
      refine chain_last (wpAny_mono (hd hf hf' A E s3 hA (q.keeps k123)) (fun y s4 r => ?_) fun _ _ z => z)
      obtain ⟨⟨t4, rfl⟩, k4⟩ := r
      exact ho'' ⟨rfl, kTr k123 k4⟩
end
end
end Cr
/-! Core, part 22: the generator of a list; all(..), any(..). -/
namespace Cr
open PySem PySem.Spec PyProof.Rows L2 GxR
theorem range_bs (bs : List Bool) : (List.range bs.length).all (fun j => bs.getD j false) = bs.all id ∧ (List.range bs.length).any (fun j => bs.getD j false) = bs.any id := by
  have e : (List.range bs.length).map (fun j => bs.getD j false) = bs := by
    refine List.ext_getElem (by simp) fun i h1 h2 => ?_
    rw [List.getElem_map, List.getElem_range, List.getD_eq_getElem?_getD, List.getElem?_eq_getElem h2]; rfl
  constructor
  · conv => rhs; rw [← e]
    rw [List.all_map]; rfl
  · conv => rhs; rw [← e]
    rw [List.any_map]; rfl
/-- the generator g, ready to be walked in the state s5; its elements are bs; H1: what was held before -/
def ReadyB (X : Cx) (pins : List (Addr × Obj)) (σ : L2.St) (H1 : Hp) (P : Addr) (bs : List Bool) (g : Addr) (s5 : Shared) : Prop :=
  ∃ (fp wr : List Addr) (G : Array GenState → Array GenState → Prop) (F : Nat → Value → Prop) (St : Nat → Shared → Prop),
    WalksS X.prog X.w X.A.in1 g fp wr G bs.length F St ∧ St 0 s5 ∧
    TruthOf X.prog X.w X.A.in1 F (fun j => bs.getD j false) ∧
    ∀ s', Moved wr G s5 s' → ∃ H2, Same H1 H2 ∧ Inv X pins σ H2 s'
/-- the environment of a generator's body -/
structure GEnv (X : Cx) (hr : Heap) (scope : Scope) (cenv : PySem.Env) : Prop where
  qc : QC X.mg hr cenv
  sc : cenv.scope = scope
  ce : cenv.cells = cloFrom X.env.cells scope.names []
section
variable {X : Cx} {pins : List (Addr × Obj)} {σ : L2.St} {H : Hp} {s : Shared}
theorem gen_list {c P : Addr} {elt iter : Expr} {x : Str} {px gpos : Pos} {scope : Scope} {te : TE} {k : Nat} {Q' : Value → Shared → Prop} {R : List Bool → Hp → Prop}
    (hr : Room k X.A) (TB : TabB X.base X.mg c P) (hcode : X.env.code = .ref c) (S : GenS X.env scope x) (hi : PE X iter te)
    (hs : ∀ v, genFold iter X.env v = pure v) (I : Inv X pins σ H s)
    (h : te σ H fun v H1 => ∃ (a : Addr) (xs : List V) (bs : List Bool), v = .ref a ∧ SqL X.K H1 a xs ∧ TabG H1 P ∧ bs.length = xs.length ∧
      (∀ (s1 : Shared) (cenv : PySem.Env) (its : List Value), Inv X pins σ H1 s1 → Vals xs its → GEnv X s1.heap scope cenv → ∀ (j : Nat) (b : Bool) (u : Value), bs[j]? = some b → its[j]? = some u → Qe X.prog X.w s1.heap cenv [(x, u)] elt (· = .bool b)) ∧ R bs H1)
    (hQ : ∀ bs H1 g s5, R bs H1 → ReadyB X pins σ H1 P bs g s5 → Q' (.ref g) s5) :
    wpAny (model X.prog X.w) X.A (eval (.GeneratorExp elt [⟨.Name x px, iter, [], 0⟩] scope gpos) X.env) Q' X.xe s := by
  refine wpAny_GeneratorExp_walksQ hr.hd S.co (closure_ok S.free) S.cell S.dot S.loc S.kind (by have := hr.dp; omega) ?_ hs
  refine thn (hi.run pins s σ H _ I h) fun xv s1 ⟨v, H1, I1, r1, q1⟩ => ?_
  obtain ⟨a, xs, bs, rfl, hq, ⟨ps, hP, ht⟩, hbl, hel, q1⟩ := q1
  obtain rfl : xv = .ref a := r1
  obtain ⟨its, rv, pl, hz⟩ := I1.list hq
  have hln := rv.length
  have hal : a < s1.heap.objs.size := pl.lt
  refine wpAny_pyIter_list pl.isList ?_
  generalize ho : ({ cls := .type "list_iterator", data := .fields #[.ref a, .int 0 0] } : Obj) = o
  have hIa : a ≠ s1.heap.objs.size := Nat.ne_of_lt hal
  have hst : (s1.heap.push o).IsListIter s1.heap.objs.size a 0 ∧ (s1.heap.push o).IsList a its.toArray := by
    refine ⟨⟨o, ?_, ?_, ?_⟩, ?_⟩
    · rw [← ho]; exact Heap.get?_push_size _ rfl
    · subst ho; rfl
    · subst ho; rfl
    · obtain ⟨ob, hob, hc, n, hd⟩ := pl.isList
      exact ⟨ob, Heap.get?_push_of_some _ hob, hc, n, hd⟩
  have hPs : s1.heap.get? P = some { cls := .none, data := .fields ps } := I1.hok P _ hP
  have hPlt : P < s1.heap.objs.size := Heap.lt_size hPs
  have haP : a ≠ P := fun z => by
    obtain ⟨ob, hob, hc, n, hd⟩ := pl.isList
    rw [z, hPs] at hob
    cases hob
    cases hd
  have hP2 : (s1.heap.push o).get? P = some { cls := .none, data := .fields ps } := Heap.get?_push_of_some _ hPs
  have cd : PySem.W.CodeHd (s1.heap.push o) c P := TB.code.keeps fun b u e => Heap.get?_push_of_some _ (I1.bk b u e)
  have lim2 : (s1.heap.push o).NoLimit := I1.nolimit.push o
  have cont : ∀ (code : Value) (h3 : Heap) (tk : Nat) (ps' : Array Value), Heap.ExtBut P (s1.heap.push o) h3 → (s1.heap.push o).objs.size ≤ h3.objs.size → h3.get? P = some { cls := .none, data := .fields ps' } → (∃ more, ps' = ps ++ more) → TriplesOk ps'.toList →
      wpAny (model X.prog X.w) X.A (builtinsFor X.env.globals X.env.builtins) (fun bi s₄ =>
        ∃ Ia fp wr n₀ Pf St₀ pz F, Value.ref s1.heap.objs.size = .ref Ia ∧ (∀ A' : Around, A'.handled = none → Walks X.prog X.w A' Ia fp wr n₀ Pf St₀) ∧ St₀ 0 s₄.heap ∧ (∀ b ∈ fp, b < s₄.heap.objs.size) ∧ s₄.heap.NoLimit ∧ cStatics ∉ wr ∧
          (∀ href : Heap, (∀ b o, s₄.heap.get? b = some o → href.get? b = some o) →
            QuietGen X.prog X.w (genEnv scope (cloFrom X.env.cells scope.names []) s₄.heap.objs.size code bi X.env) x [] elt (List.range s₄.heap.objs.size) wr Pf pz F href) ∧
          (∀ a h₅ tk gs, gs.bare = true → s₄.heap.objs.size < a → h₅.objs.size = a + 1 → (∀ b o, s₄.heap.get? b = some o → h₅.get? b = some o) →
            WalksS X.prog X.w X.A.in4 a (a :: s₄.heap.objs.size :: List.range s₄.heap.objs.size) (s₄.heap.objs.size :: wr) (GenOnlyQ s₄.gens.size) (passing pz n₀ 0).length
              (fun j y => ∃ i, (passing pz n₀ 0)[j]? = some i ∧ F i y) (GenAt X.prog X.w X.A.in4 a s₄.gens.size s₄.heap.objs.size (List.range s₄.heap.objs.size) wr pz n₀ F) →
            GenAt X.prog X.w X.A.in4 a s₄.gens.size s₄.heap.objs.size (List.range s₄.heap.objs.size) wr pz n₀ F 0 { s₄ with gens := s₄.gens.push gs, toks := tk, heap := h₅ } →
            Q' (.ref a) { s₄ with gens := s₄.gens.push gs, toks := tk, heap := h₅ })) X.xe { s1 with heap := h3, toks := tk } := by
    intro code h3 tk ps' hx hsz hP3 hmore ht3
    obtain ⟨bm, ob, e1, e2, e3, e4, e5, e6, e7, e8⟩ := TB.bm
    have hcP : cStatics ≠ P := fun e => by
      obtain ⟨_, hns, _⟩ := I1.nolimit
      obtain ⟨o', es, ep, ho, hd, _⟩ := hns
      rw [e, hPs] at ho
      cases ho
      cases hd
    have hcl : cStatics < s1.heap.objs.size := let ⟨_, hns, _⟩ := I1.nolimit; hns.lt
    have sz2 : (s1.heap.push o).objs.size = s1.heap.objs.size + 1 := Heap.size_push ..
    have keep3 : ∀ b u, b ≠ P → s1.heap.get? b = some u → h3.get? b = some u := fun b u hb e => hx b u hb (Heap.get?_push_of_some _ e)
    refine wpAny_builtinsFor (m := X.mg) (by rw [I1.ok.glob]; exact ((I1.mod.glob.keeps I1.bk).push o).extBut hx TB.gP) e1 e2 (keep3 _ _ e4 (I1.bk _ _ e5)) e6 e7 e8 ?_
    refine ⟨s1.heap.objs.size, [s1.heap.objs.size, a], [s1.heap.objs.size], its.toArray.size, _, _, (fun _ => true), (fun i y => i < bs.length ∧ y = .bool (bs.getD i false)), rfl, fun A hA => Walks.list hA s1.heap.objs.size a hIa its.toArray, ?_, ?_, lim2.extBut hx hcP, ?_, ?_, ?_⟩
    · refine (Walks.list (prog := X.prog) (w := X.w) hr.hd s1.heap.objs.size a hIa its.toArray).frame _ _ _ hst fun b hb u e => hx b u (fun z => ?_) e
      rcases List.mem_cons.mp hb with z2 | z2
      · exact Nat.ne_of_lt hPlt (z.symm.trans z2)
      · exact haP ((List.mem_singleton.mp z2).symm.trans z)
    · intro b hb
      show b < h3.objs.size
      rcases List.mem_cons.mp hb with z | z
      · rw [z]
        have : s1.heap.objs.size + 1 ≤ h3.objs.size := by rw [← sz2]; exact hsz
        exact this
      · rw [List.mem_singleton.mp z]
        have h9 : s1.heap.objs.size + 1 ≤ h3.objs.size := by rw [← sz2]; exact hsz
        exact Nat.lt_of_lt_of_le (Nat.lt_succ_of_lt hal) h9
    · intro z
      exact Nat.ne_of_lt hcl (List.mem_singleton.mp z)
    · intro href hhref
      refine ⟨fun A' E' i v s₂ m₂ hA hPv hn hm hk => ?_, fun A' E' i v s₂ m₂ hA hPv hp hn hm hk => ?_⟩
      · simp only [List.forIn_nil]
        exact wpAny_pure ⟨rfl, keeps_refl _⟩
      · have hPv : its.toArray[i]? = some v := hPv
        have hv : its[i]? = some v := by simpa using hPv
        have hil : i < its.length := (List.getElem?_eq_some_iff.mp hv).1
        have hib : i < bs.length := by omega
        have hb : bs[i]? = some (bs.getD i false) := by rw [List.getD_eq_getElem?_getD, List.getElem?_eq_getElem hib]; rfl
        have ge : GEnv X s1.heap scope (genEnv scope (cloFrom X.env.cells scope.names []) h3.objs.size code builtinsNs X.env) :=
          ⟨⟨S.kind, I1.ok.glob, rfl, I1.mod.glob.keeps I1.bk, by obtain ⟨mb, n1, n2⟩ := I1.mod.blt; exact ⟨mb, n1.keeps I1.bk, n2⟩⟩, rfl, rfl⟩
        have qs : QSt s1.heap (genEnv scope (cloFrom X.env.cells scope.names []) h3.objs.size code builtinsNs X.env) [(x, v)] s₂ := by
          refine ⟨⟨m₂, hn, fun y u e => ?_⟩, fun b u e d => ?_⟩
          · rw [List.lookup_cons] at e
            split at e
            · rename_i q
              cases e
              rw [beq_iff_eq.mp q]; exact hm
            · cases e
          · have hbP : b ≠ P := fun z => by
              rw [z, hPs] at e
              cases e
              exact d _ rfl
            have hbl := Heap.lt_size e
            have h9 : s1.heap.objs.size + 1 ≤ h3.objs.size := by rw [← sz2]; exact hsz
            refine hk b (List.mem_range.mpr (Nat.lt_of_lt_of_le (Nat.lt_succ_of_lt hbl) h9)) (fun z => Nat.ne_of_lt hbl (List.mem_singleton.mp z)) u (hhref b u (keep3 b u hbP e))
        exact wpAny_mono (hel s1 _ its I1 rv ge i _ v hb hv A' E' s₂ hA qs) (fun y s3 r => ⟨⟨hib, r.1⟩, r.2⟩) fun _ _ e => e
    · intro g h5 tk5 gs hgb hag hsz5 hk5 W5 hat
      simp only [GxR.passing_true, List.length_range] at W5
      have hn : its.toArray.size = bs.length := by simp; omega
      rw [hn] at W5 hat
      refine hQ bs H1 g _ q1 ⟨_, _, _, _, _, W5.in4_1, hat, ?_, fun s' hm => ?_⟩
      · intro j y sj Qj Ej hy hQj
        obtain ⟨i, hij, hib, rfl⟩ := hy
        obtain ⟨hj, ej⟩ := List.getElem?_eq_some_iff.mp hij
        rw [List.getElem_range] at ej
        subst ej
        exact wpAny_truthy_bool hQj
      · obtain ⟨more, em⟩ := hmore
        have nwr : ∀ b u, s1.heap.get? b = some u → b ∉ h3.objs.size :: [s1.heap.objs.size] := fun b u e hb => by
          have hl := Heap.lt_size e
          rcases List.mem_cons.mp hb with z | z
          · rw [z] at hl
            have h9 : (h3.objs.size : Nat) < s1.heap.objs.size := hl
            omega
          · rw [List.mem_singleton.mp z] at hl
            exact Nat.lt_irrefl _ hl
        have J := inv_tab (more := more) (h' := s'.heap) (g' := s'.gens) (d' := s'.drawn) (t' := s'.toks) I1 hP (fun b u hb e => hm.heap b u (nwr b u e) (hk5 b u (keep3 b u hb e)))
          (by rw [← em]; exact hm.heap P _ (nwr P _ hPs) (hk5 P _ hP3)) (AllBare.movedS (I1.bare.push hgb) hm)
        rw [sh_eta s1 s' hm.os] at J
        refine ⟨upd H1 P (.tbl (ps ++ more)), fun b u e => ?_, J⟩
        by_cases hb : b = P
        · rw [hb, hP] at e
          cases e
          rw [hb]
          exact ⟨more, upd_same, fun _ => by rw [← em]; exact ht3⟩
        · rw [upd_ne hb]; exact .of e
  refine ⟨lim2, ?_⟩
  cases hf : codeAmong gpos ps.toList with
  | none =>
    refine wpAny_genexprCodeX hcode (cd.code hP2 ht) (cd.tab hP2) hf fun c' h' tk hx hge hlt hco' _ htab' _ => ?_
    obtain ⟨o1, vs, f1, tf, fl, tg, inF, tx, tt, op, _, _, _, _, _, _, _, _, _, htr, _⟩ := hco'
    exact cont _ h' tk _ hx (Nat.le_trans hge (Nat.le_of_lt hlt)) htab'.2 ⟨_, rfl⟩ htr
  | some cv =>
    refine wpAny_genexprCode_hit hcode (cd.code hP2 ht) hf ?_
    exact cont cv (s1.heap.push o) s1.toks ps (Heap.ExtBut.refl _ _) (Nat.le_refl _) hP2 ⟨#[], by simp⟩ ht
end
end Cr
/-! Core, part 23: the generator of a list of pairs; all(..), any(..). -/
namespace Cr
open PySem PySem.Spec PyProof.Rows L2 GxR
/-- the generator's own scope, two names -/
structure GenS2 (env : PySem.Env) (scope : Scope) (xa xb : Str) : Prop where
  kind : scope.kind = .function
  co : scope.isCoroutine = false
  cell : ∀ y ∈ scope.names, y.2 ≠ .cell
  dot : scope.names.lookup (".0" : Str) = some NameKind.local
  la : scope.names.lookup xa = some .local
  lb : scope.names.lookup xb = some .local
  ne : xa ≠ xb
  free : ∀ y ∈ scope.names, y.2 = .free → ∃ c, env.cells.lookup y.1 = some c
def valsT (L : List (Value × Value)) (j : Nat) : Array Value := match L[j]? with
  | some p => #[p.1, p.2]
  | none => #[]
theorem valsT_two (L : List (Value × Value)) (j : Nat) (h : j < L.length) : ∃ va vb, valsT L j = #[va, vb] := by
  unfold valsT
  rw [List.getElem?_eq_getElem h]
  exact ⟨_, _, rfl⟩
section
variable {X : Cx} {pins : List (Addr × Obj)} {σ : L2.St} {H : Hp} {s : Shared}
theorem tups_at (I : Inv X pins σ H s) : ∀ (Tv : List (Addr × V × V)), (∀ q ∈ Tv, SqT X.K H q.1 [q.2.1, q.2.2]) →
    ∃ L : List (Value × Value), L.length = Tv.length ∧ ∀ (j : Nat) (q : Addr × V × V) (p : Value × Value), Tv[j]? = some q → L[j]? = some p → RelV q.2.1 p.1 ∧ RelV q.2.2 p.2 ∧ s.heap.IsTuple q.1 #[p.1, p.2]
  | [], _ => ⟨[], rfl, fun j q p e => by simp at e⟩
  | q :: Tv, h => by
    obtain ⟨L, hl, hp⟩ := tups_at I Tv fun q hq => h q (List.mem_cons_of_mem _ hq)
    obtain ⟨its, rv, pl, _⟩ := I.tuple (h q (List.mem_cons_self ..))
    obtain ⟨ua, ub, rfl, ra, rb⟩ := rv.two
    refine ⟨(ua, ub) :: L, by simp [hl], fun j q' p e1 e2 => ?_⟩
    cases j with
    | zero =>
      simp at e1 e2
      subst e1 e2
      exact ⟨ra, rb, pl⟩
    | succ j => exact hp j q' p (by simpa using e1) (by simpa using e2)
theorem gen_listT {c P : Addr} {elt iter : Expr} {xa xb : Str} {pa pb pt gpos : Pos} {kt : Nat} {scope : Scope} {te : TE} {k : Nat} {Q' : Value → Shared → Prop} {R : List Bool → Hp → Prop}
    (hr : Room k X.A) (TB : TabB X.base X.mg c P) (hcode : X.env.code = .ref c) (S : GenS2 X.env scope xa xb) (hi : PE X iter te)
    (hs : ∀ v, genFold iter X.env v = pure v) (I : Inv X pins σ H s)
    (h : te σ H fun v H1 => ∃ (a : Addr) (Tv : List (Addr × V × V)) (bs : List Bool), v = .ref a ∧ SqL X.K H1 a (Tv.map fun q => V.ref q.1) ∧ (∀ q ∈ Tv, SqT X.K H1 q.1 [q.2.1, q.2.2]) ∧ TabG H1 P ∧ bs.length = Tv.length ∧
      (∀ (s1 : Shared) (cenv : PySem.Env), Inv X pins σ H1 s1 → GEnv X s1.heap scope cenv → ∀ (j : Nat) (b : Bool) (q : Addr × V × V) (ua ub : Value), bs[j]? = some b → Tv[j]? = some q → RelV q.2.1 ua → RelV q.2.2 ub → Qe X.prog X.w s1.heap cenv [(xa, ua), (xb, ub)] elt (· = .bool b)) ∧ R bs H1)
    (hQ : ∀ bs H1 g s5, R bs H1 → ReadyB X pins σ H1 P bs g s5 → Q' (.ref g) s5) :
    wpAny (model X.prog X.w) X.A (eval (.GeneratorExp elt [⟨.Tuple [.Name xa pa, .Name xb pb] kt pt, iter, [], 0⟩] scope gpos) X.env) Q' X.xe s := by
  refine wpAny_GeneratorExp_walksQT hr.hd S.co (closure_ok S.free) S.cell S.dot S.la S.lb S.ne S.kind (by have := hr.dp; omega) ?_ hs
  refine thn (hi.run pins s σ H _ I h) fun xv s1 ⟨v, H1, I1, r1, q1⟩ => ?_
  obtain ⟨a, Tv, bs, rfl, hq, hTq, ⟨ps, hP, ht⟩, hbl, hel, q1⟩ := q1
  obtain rfl : xv = .ref a := r1
  obtain ⟨its, rv, pl, hz⟩ := I1.list hq
  have hln := rv.length
  rw [List.length_map] at hln
  obtain ⟨L, hLl, hLp⟩ := tups_at I1 Tv hTq
  have hit : ∀ j, j < its.toArray.size → its.toArray[j]? = some (.ref ((fun j => (Tv.getD j (0, V.non, V.non)).1) j)) := fun j hj => by
    have hj2 : j < Tv.length := by simpa [← hln] using hj
    have e1 : (Tv.map fun q => V.ref q.1)[j]? = some (V.ref (Tv[j]).1) := by rw [List.getElem?_map, List.getElem?_eq_getElem hj2]; rfl
    obtain ⟨u, hu, ru⟩ := rv.get e1
    have ru : u = Value.ref (Tv[j]).1 := ru
    show its.toArray[j]? = some (Value.ref (Tv.getD j (0, V.non, V.non)).1)
    rw [List.getD_eq_getElem?_getD, List.getElem?_eq_getElem hj2]
    simpa [ru] using hu
  have hvt : ∀ k, k < its.toArray.size → s1.heap.IsTuple ((fun j => (Tv.getD j (0, V.non, V.non)).1) k) (valsT L k) := fun k hk => by
    have hk2 : k < Tv.length := by simpa [← hln] using hk
    have hk3 : k < L.length := by omega
    have := (hLp k _ _ (List.getElem?_eq_getElem hk2) (List.getElem?_eq_getElem hk3)).2.2
    show s1.heap.IsTuple (Tv.getD k (0, V.non, V.non)).1 (valsT L k)
    unfold valsT
    rw [List.getD_eq_getElem?_getD, List.getElem?_eq_getElem hk2, List.getElem?_eq_getElem hk3]
    exact this
  have hTI : ∀ j, j < its.toArray.size → (fun j => (Tv.getD j (0, V.non, V.non)).1) j ≠ s1.heap.objs.size := fun j hj => by
    obtain ⟨ob, hob, _⟩ := hvt j hj
    exact Nat.ne_of_lt (Heap.lt_size hob)
  have hal : a < s1.heap.objs.size := pl.lt
  refine wpAny_pyIter_list pl.isList ?_
  generalize ho : ({ cls := .type "list_iterator", data := .fields #[.ref a, .int 0 0] } : Obj) = o
  have hIa : a ≠ s1.heap.objs.size := Nat.ne_of_lt hal
  have hst : (s1.heap.push o).IsListIter s1.heap.objs.size a 0 ∧ (s1.heap.push o).IsList a its.toArray ∧ ∀ k, k < its.toArray.size → (s1.heap.push o).IsTuple ((fun j => (Tv.getD j (0, V.non, V.non)).1) k) (valsT L k) := by
    refine ⟨⟨o, ?_, ?_, ?_⟩, ?_, fun k hk => ?_⟩
    · rw [← ho]; exact Heap.get?_push_size _ rfl
    · subst ho; rfl
    · subst ho; rfl
    · obtain ⟨ob, hob, hc, n, hd⟩ := pl.isList
      exact ⟨ob, Heap.get?_push_of_some _ hob, hc, n, hd⟩
    · obtain ⟨ob, hob, hc, n, hd⟩ := hvt k hk
      exact ⟨ob, Heap.get?_push_of_some _ hob, hc, n, hd⟩
  have hPs : s1.heap.get? P = some { cls := .none, data := .fields ps } := I1.hok P _ hP
  have hPlt : P < s1.heap.objs.size := Heap.lt_size hPs
  have haP : a ≠ P := fun z => by
    obtain ⟨ob, hob, hc, n, hd⟩ := pl.isList
    rw [z, hPs] at hob
    cases hob
    cases hd
  have hTP : ∀ b ∈ (List.range its.toArray.size).map (fun j => (Tv.getD j (0, V.non, V.non)).1), b ≠ P := fun b hb z => by
    obtain ⟨k, hk, rfl⟩ := List.mem_map.mp hb
    obtain ⟨ob, hob, hc, n, hd⟩ := hvt k (List.mem_range.mp hk)
    have hob : s1.heap.get? (Tv.getD k (0, V.non, V.non)).1 = some ob := hob
    have z : (Tv.getD k (0, V.non, V.non)).1 = P := z
    rw [z, hPs] at hob
    cases hob
    cases hd
  have hP2 : (s1.heap.push o).get? P = some { cls := .none, data := .fields ps } := Heap.get?_push_of_some _ hPs
  have cd : PySem.W.CodeHd (s1.heap.push o) c P := TB.code.keeps fun b u e => Heap.get?_push_of_some _ (I1.bk b u e)
  have lim2 : (s1.heap.push o).NoLimit := I1.nolimit.push o
  have cont : ∀ (code : Value) (h3 : Heap) (tk : Nat) (ps' : Array Value), Heap.ExtBut P (s1.heap.push o) h3 → (s1.heap.push o).objs.size ≤ h3.objs.size → h3.get? P = some { cls := .none, data := .fields ps' } → (∃ more, ps' = ps ++ more) → TriplesOk ps'.toList →
      wpAny (model X.prog X.w) X.A (builtinsFor X.env.globals X.env.builtins) (fun bi s₄ =>
        ∃ Ia fp wr n₀ Pf St₀ Mid pz F, Value.ref s1.heap.objs.size = .ref Ia ∧ (∀ A' : Around, A'.handled = none → WalksU X.prog X.w A' Ia fp wr n₀ Pf St₀ Mid) ∧ (∀ i vals, Pf i vals → ∃ va vb, vals = #[va, vb]) ∧ St₀ 0 s₄.heap ∧ (∀ b ∈ fp, b < s₄.heap.objs.size) ∧ s₄.heap.NoLimit ∧ cStatics ∉ wr ∧
          (∀ href : Heap, (∀ b o, s₄.heap.get? b = some o → href.get? b = some o) →
            QuietGenT X.prog X.w (genEnv scope (cloFrom X.env.cells scope.names []) s₄.heap.objs.size code bi X.env) xa xb [] elt (List.range s₄.heap.objs.size) wr Pf pz F href) ∧
          (∀ a h₅ tk gs, gs.bare = true → s₄.heap.objs.size < a → h₅.objs.size = a + 1 → (∀ b o, s₄.heap.get? b = some o → h₅.get? b = some o) →
            WalksS X.prog X.w X.A.in4 a (a :: s₄.heap.objs.size :: List.range s₄.heap.objs.size) (s₄.heap.objs.size :: wr) (GenOnlyQ s₄.gens.size) (passing pz n₀ 0).length
              (fun j y => ∃ i, (passing pz n₀ 0)[j]? = some i ∧ F i y) (GenAt X.prog X.w X.A.in4 a s₄.gens.size s₄.heap.objs.size (List.range s₄.heap.objs.size) wr pz n₀ F) →
            GenAt X.prog X.w X.A.in4 a s₄.gens.size s₄.heap.objs.size (List.range s₄.heap.objs.size) wr pz n₀ F 0 { s₄ with gens := s₄.gens.push gs, toks := tk, heap := h₅ } →
            Q' (.ref a) { s₄ with gens := s₄.gens.push gs, toks := tk, heap := h₅ })) X.xe { s1 with heap := h3, toks := tk } := by
    intro code h3 tk ps' hx hsz hP3 hmore ht3
    obtain ⟨bm, ob, e1, e2, e3, e4, e5, e6, e7, e8⟩ := TB.bm
    have hcP : cStatics ≠ P := fun e => by
      obtain ⟨_, hns, _⟩ := I1.nolimit
      obtain ⟨o', es, ep, ho, hd, _⟩ := hns
      rw [e, hPs] at ho
      cases ho
      cases hd
    have hcl : cStatics < s1.heap.objs.size := let ⟨_, hns, _⟩ := I1.nolimit; hns.lt
    have sz2 : (s1.heap.push o).objs.size = s1.heap.objs.size + 1 := Heap.size_push ..
    have keep3 : ∀ b u, b ≠ P → s1.heap.get? b = some u → h3.get? b = some u := fun b u hb e => hx b u hb (Heap.get?_push_of_some _ e)
    refine wpAny_builtinsFor (m := X.mg) (by rw [I1.ok.glob]; exact ((I1.mod.glob.keeps I1.bk).push o).extBut hx TB.gP) e1 e2 (keep3 _ _ e4 (I1.bk _ _ e5)) e6 e7 e8 ?_
    refine ⟨s1.heap.objs.size, _, [s1.heap.objs.size], its.toArray.size, _, _, _, (fun _ => true), (fun i y => i < bs.length ∧ y = .bool (bs.getD i false)), rfl, fun A hA => (WalksU.listOfTuples hA s1.heap.objs.size a hIa its.toArray (fun j => (Tv.getD j (0, V.non, V.non)).1) (valsT L) hit hTI).bound, fun i v z => by rw [z.2]; exact valsT_two L i (by have := z.1; simp at this; omega), ?_, ?_, lim2.extBut hx hcP, ?_, ?_, ?_⟩
    · refine (WalksU.listOfTuples (prog := X.prog) (w := X.w) hr.hd s1.heap.objs.size a hIa its.toArray (fun j => (Tv.getD j (0, V.non, V.non)).1) (valsT L) hit hTI).frame _ _ _ hst fun b hb u e => hx b u (fun z => ?_) e
      rcases List.mem_cons.mp hb with z2 | z2
      · exact Nat.ne_of_lt hPlt (z.symm.trans z2)
      · rcases List.mem_cons.mp z2 with z2 | z2
        · exact haP (z2.symm.trans z)
        · exact hTP b z2 z
    · intro b hb
      show b < h3.objs.size
      rcases List.mem_cons.mp hb with z | z
      · rw [z]
        have : s1.heap.objs.size + 1 ≤ h3.objs.size := by rw [← sz2]; exact hsz
        exact this
      · have hba : b < s1.heap.objs.size := by
          rcases List.mem_cons.mp z with z | z
          · rw [z]; exact hal
          · obtain ⟨k, hk, rfl⟩ := List.mem_map.mp z
            obtain ⟨ob, hob, _⟩ := hvt k (List.mem_range.mp hk)
            exact Heap.lt_size hob
        have h9 : s1.heap.objs.size + 1 ≤ h3.objs.size := by rw [← sz2]; exact hsz
        exact Nat.lt_of_lt_of_le (Nat.lt_succ_of_lt hba) h9
    · intro z
      exact Nat.ne_of_lt hcl (List.mem_singleton.mp z)
    · intro href hhref
      refine ⟨fun A' E' i va vb s₂ m₂ hA hPv hn hma hmb hk => ?_, fun A' E' i va vb s₂ m₂ hA hPv hp hn hma hmb hk => ?_⟩
      · simp only [List.forIn_nil]
        exact wpAny_pure ⟨rfl, keeps_refl _⟩
      · obtain ⟨hil, hPv⟩ := hPv
        have hil : i < Tv.length := by simpa [← hln] using hil
        have hib : i < bs.length := by omega
        have hiL : i < L.length := by omega
        have hb : bs[i]? = some (bs.getD i false) := by rw [List.getD_eq_getElem?_getD, List.getElem?_eq_getElem hib]; rfl
        obtain ⟨ra, rb, _⟩ := hLp i _ _ (List.getElem?_eq_getElem hil) (List.getElem?_eq_getElem hiL)
        have ev : #[va, vb] = #[(L[i]).1, (L[i]).2] := by
          rw [hPv]; unfold valsT; rw [List.getElem?_eq_getElem hiL]
        have ea : va = (L[i]).1 := by have := congrArg (fun z : Array Value => z[0]?) ev; simpa using this
        have eb : vb = (L[i]).2 := by have := congrArg (fun z : Array Value => z[1]?) ev; simpa using this
        have ge : GEnv X s1.heap scope (genEnv scope (cloFrom X.env.cells scope.names []) h3.objs.size code builtinsNs X.env) :=
          ⟨⟨S.kind, I1.ok.glob, rfl, I1.mod.glob.keeps I1.bk, by obtain ⟨mb, n1, n2⟩ := I1.mod.blt; exact ⟨mb, n1.keeps I1.bk, n2⟩⟩, rfl, rfl⟩
        have qs : QSt s1.heap (genEnv scope (cloFrom X.env.cells scope.names []) h3.objs.size code builtinsNs X.env) [(xa, va), (xb, vb)] s₂ := by
          refine ⟨⟨m₂, hn, fun y u e => ?_⟩, fun b u e d => ?_⟩
          · rw [List.lookup_cons] at e
            split at e
            · rename_i q
              cases e
              rw [beq_iff_eq.mp q]; exact hma
            · rw [List.lookup_cons] at e
              split at e
              · rename_i q
                cases e
                rw [beq_iff_eq.mp q]; exact hmb
              · cases e
          · have hbP : b ≠ P := fun z => by
              rw [z, hPs] at e
              cases e
              exact d _ rfl
            have hbl := Heap.lt_size e
            have h9 : s1.heap.objs.size + 1 ≤ h3.objs.size := by rw [← sz2]; exact hsz
            refine hk b (List.mem_range.mpr (Nat.lt_of_lt_of_le (Nat.lt_succ_of_lt hbl) h9)) (fun z => Nat.ne_of_lt hbl (List.mem_singleton.mp z)) u (hhref b u (keep3 b u hbP e))
        exact wpAny_mono (hel s1 _ I1 ge i _ _ va vb hb (List.getElem?_eq_getElem hil) (ea ▸ ra) (eb ▸ rb) A' E' s₂ hA qs) (fun y s3 r => ⟨⟨hib, r.1⟩, r.2⟩) fun _ _ e => e
    · intro g h5 tk5 gs hgb hag hsz5 hk5 W5 hat
      simp only [GxR.passing_true, List.length_range] at W5
      have hn : its.toArray.size = bs.length := by simp; omega
      rw [hn] at W5 hat
      refine hQ bs H1 g _ q1 ⟨_, _, _, _, _, W5.in4_1, hat, ?_, fun s' hm => ?_⟩
      · intro j y sj Qj Ej hy hQj
        obtain ⟨i, hij, hib, rfl⟩ := hy
        obtain ⟨hj, ej⟩ := List.getElem?_eq_some_iff.mp hij
        rw [List.getElem_range] at ej
        subst ej
        exact wpAny_truthy_bool hQj
      · obtain ⟨more, em⟩ := hmore
        have nwr : ∀ b u, s1.heap.get? b = some u → b ∉ h3.objs.size :: [s1.heap.objs.size] := fun b u e hb => by
          have hl := Heap.lt_size e
          rcases List.mem_cons.mp hb with z | z
          · rw [z] at hl
            have h9 : (h3.objs.size : Nat) < s1.heap.objs.size := hl
            omega
          · rw [List.mem_singleton.mp z] at hl
            exact Nat.lt_irrefl _ hl
        have J := inv_tab (more := more) (h' := s'.heap) (g' := s'.gens) (d' := s'.drawn) (t' := s'.toks) I1 hP (fun b u hb e => hm.heap b u (nwr b u e) (hk5 b u (keep3 b u hb e)))
          (by rw [← em]; exact hm.heap P _ (nwr P _ hPs) (hk5 P _ hP3)) (AllBare.movedS (I1.bare.push hgb) hm)
        rw [sh_eta s1 s' hm.os] at J
        refine ⟨upd H1 P (.tbl (ps ++ more)), fun b u e => ?_, J⟩
        by_cases hb : b = P
        · rw [hb, hP] at e
          cases e
          rw [hb]
          exact ⟨more, upd_same, fun _ => by rw [← em]; exact ht3⟩
        · rw [upd_ne hb]; exact .of e
  refine ⟨lim2, ?_⟩
  cases hf : codeAmong gpos ps.toList with
  | none =>
    refine wpAny_genexprCodeX hcode (cd.code hP2 ht) (cd.tab hP2) hf fun c' h' tk hx hge hlt hco' _ htab' _ => ?_
    obtain ⟨o1, vs, f1, tf, fl, tg, inF, tx, tt, op, _, _, _, _, _, _, _, _, _, htr, _⟩ := hco'
    exact cont _ h' tk _ hx (Nat.le_trans hge (Nat.le_of_lt hlt)) htab'.2 ⟨_, rfl⟩ htr
  | some cv =>
    refine wpAny_genexprCode_hit hcode (cd.code hP2 ht) hf ?_
    exact cont cv (s1.heap.push o) s1.toks ps (Heap.ExtBut.refl _ _) (Nat.le_refl _) hP2 ⟨#[], by simp⟩ ht
end
end Cr
/-! Core, part 24: all(..), any(..) of a generator expression, by mirrors. -/
namespace Cr
open PySem PySem.Spec PyProof.Rows L2
/-- what is asked of a generator's scope -/
def genB (dn : List (Str × NameKind)) (scope : Scope) (xs : List Str) : Bool :=
  decide (scope.kind = .function) && (decide (scope.isCoroutine = false) && (scope.names.all (fun y => decide (y.2 ≠ .cell)) && (decide (scope.names.lookup (".0" : Str) = some NameKind.local) &&
    (xs.all (fun x => decide (scope.names.lookup x = some NameKind.local)) && scope.names.all (fun y => decide (y.2 = .free → dn.lookup y.1 = some NameKind.cell))))))
theorem genS_of {X : Cx} {scope : Scope} {x : Str} (h : genB X.env.scope.names scope [x] = true) (ok : X.Ok) : GxR.GenS X.env scope x := by
  unfold genB at h
  simp only [Bool.and_eq_true, decide_eq_true_eq, List.all_eq_true] at h
  obtain ⟨h1, h2, h3, h4, h5, h6⟩ := h
  exact ⟨h1, h2, h3, h4, h5 x (by simp), fun y hy q => ok.has _ (.inl (h6 y hy q))⟩
theorem genS2_of {X : Cx} {scope : Scope} {xa xb : Str} (h : genB X.env.scope.names scope [xa, xb] = true) (hne : xa ≠ xb) (ok : X.Ok) : GenS2 X.env scope xa xb := by
  unfold genB at h
  simp only [Bool.and_eq_true, decide_eq_true_eq, List.all_eq_true] at h
  obtain ⟨h1, h2, h3, h4, h5, h6⟩ := h
  exact ⟨h1, h2, h3, h4, h5 xa (by simp), h5 xb (by simp), hne, fun y hy q => ok.has _ (.inl (h6 y hy q))⟩
def freeB (dn : List (Str × NameKind)) (scope : Scope) : Bool := scope.names.all (fun y => decide (y.2 = .free → dn.lookup y.1 = some NameKind.cell))
theorem freeB_ok {dn : List (Str × NameKind)} {scope : Scope} (h : freeB dn scope = true) : ∀ y ∈ scope.names, y.2 = .free → dn.lookup y.1 = some NameKind.cell := fun y hy q => of_decide_eq_true (List.all_eq_true.mp h y hy) q
structure QM (T : CT) (Fb : Gh) (X : Cx) (scope : Scope) (tg : List (Str × Nat)) (e : Expr) (m : Env → Res D) : Prop where
  run : ∀ (pins : List (Addr × Obj)) (σ : L2.St) (H : Hp) (F : List Addr) (ρ0 ρ1 : Env) (s : Shared) (cenv : PySem.Env) (loc : List (Str × Value)), StR (gx X T) Fb H σ ρ0 F → Inv X pins σ H s → GEnv X s.heap scope cenv →
    (∀ x i, (x, i) ∈ tg → ∃ d v u, ρ1[i]? = some (.v (.d d)) ∧ loc.lookup x = some u ∧ RelV v u ∧ Rep (gx X T) H (avo Fb F) d v) → (∀ i, i ∉ tg.map (·.2) → ρ1[i]? = ρ0[i]?) → ∀ d, m ρ1 = .ok d →
    Qe X.prog X.w s.heap cenv loc e (fun y => ∃ v, RelV v y ∧ RepB (gx X T) H (avo Fb F) d v)
section
variable {T : CT} {Fb : Gh} {X : Cx} {scope : Scope} {tg : List (Str × Nat)} {x : Str} {pos p : Pos} {e a b c d : Expr} {m ma mb mc md : Env → Res D}
theorem ge_kind {hr : Heap} {cenv : PySem.Env} {k : NameKind} (ge : GEnv X hr scope cenv) (h : scope.names.lookup x = some k) : cenv.kindOf x = some k := by
  show cenv.scope.names.lookup x = some k
  rw [ge.sc]; exact h
theorem qm_loc (i : Nat) (h : (x, i) ∈ tg) (hl : scope.names.lookup x = some .local) (hd : (x == ("__debug__" : Str)) = false := by decide) : QM T Fb X scope tg (.Name x pos) (mVar i) := by
  refine ⟨fun pins σ H F ρ0 ρ1 s cenv loc S I ge ht ho d' e' => ?_⟩
  obtain ⟨d1, v, u, e1, e2, e3, e4⟩ := ht x i h
  unfold mVar at e'
  rw [e1] at e'
  cases e'
  exact (q_local ge.qc (ge_kind ge hl) e2 hd).imp fun y z => by rw [z]; exact ⟨v, e3, e4.b⟩
/-- a name that the def has, in a cell -/
theorem qm_cap (j : Nat) (hj : tg.all (fun q => decide (q.2 ≠ j)) = true) (hl : scope.names.lookup x = some .free) (hN : X.N[j]? = some x := by rfl) (hk : X.env.scope.names.lookup x = some .cell := by rfl)
    (hf : freeB X.env.scope.names scope = true := by kernel_rfl)
    (hd : (x == ("__debug__" : Str)) = false := by decide) (hn : (x == ("__classdict__" : Str)) = false := by decide) : QM T Fb X scope tg (.Name x pos) (mVarB j) := by
  refine ⟨fun pins σ H F ρ0 ρ1 s cenv loc S I ge ht ho d' e' => ?_⟩
  have hj' : j ∉ tg.map (·.2) := fun z => by
    obtain ⟨q, hq, e⟩ := List.mem_map.mp z
    have := List.all_eq_true.mp hj q hq
    exact of_decide_eq_true this e
  have eo := ho j hj'
  have main : ∀ v, σ[j]? = some (some v) → RepB (gx X T) H (avo Fb F) d' v → Qe X.prog X.w s.heap cenv loc (.Name x pos) (fun y => ∃ v, RelV v y ∧ RepB (gx X T) H (avo Fb F) d' v) := by
    intro v hv r
    obtain ⟨mm, n, f⟩ := I.loc
    obtain ⟨u, ru, lk⟩ := f j x v hN hv (.inr (.inl hk))
    rcases lk with ⟨h1, _⟩ | ⟨_, cc, h2, h3⟩
    · have h1 : X.env.scope.names.lookup x = some .local := h1
      rw [hk] at h1; cases h1
    · have hc : cenv.cells.lookup x = some cc := by
        rw [ge.ce]
        exact NdefX.clo_has (fun y hy q => I.ok.has _ (.inl (freeB_ok hf y hy q))) (PySem.mem_of_lookup hl) h2
      exact (q_free ge.qc (ge_kind ge hl) hc h3 hd hn).imp fun y z => by rw [z]; exact ⟨v, ru, r⟩
  unfold mVarB at e'
  rw [eo] at e'
  cases q : ρ0[j]? with
  | none => rw [q] at e'; cases e'
  | some sl =>
    rw [q] at e'
    obtain ⟨o, pp, h1, h2, _⟩ := S.slot q
    cases sl with
    | no => cases e'
    | oo c fs => cases e'
    | v fd =>
      obtain ⟨v, rfl, h3⟩ := h2
      cases fd with
      | d z =>
        have e' : Res.ok z = .ok d' := e'
        cases e'
        exact main v h1 h3.2.b
      | ol zs =>
        have e' : Res.ok (.lst zs) = .ok d' := e'
        cases e'
        obtain ⟨aa, vs, rfl, _, h4, h5⟩ := h3
        exact main _ h1 ⟨aa, vs, rfl, h4, h5⟩
theorem qm_int {i : Int} {j : Nat} : QM T Fb X scope tg (.Constant (.int i) j pos) (mC (.int i)) := by
  refine ⟨fun pins σ H F ρ0 ρ1 s cenv loc S I ge ht ho d' e' => ?_⟩
  cases e'
  exact q_int.imp fun y ⟨t, z⟩ => ⟨.int i, ⟨t, z⟩, rfl⟩
theorem qm_str {i : Str} {j : Nat} : QM T Fb X scope tg (.Constant (.str i) j pos) (mC (.str i)) := by
  refine ⟨fun pins σ H F ρ0 ρ1 s cenv loc S I ge ht ho d' e' => ?_⟩
  cases e'
  exact q_str.imp fun y ⟨t, z⟩ => ⟨.str i, ⟨t, z⟩, rfl⟩
theorem qm_glo {d : D} (g : GloD X.K T X.mg x d) (hl : scope.names.lookup x = some .globalImplicit) (hd : (x == ("__debug__" : Str)) = false := by decide) : QM T Fb X scope tg (.Name x pos) (mC d) := by
  refine ⟨fun pins σ H F ρ0 ρ1 s cenv loc S I ge ht ho d' e' => ?_⟩
  cases e'
  obtain ⟨u, v, h1, h2, h3⟩ := g
  exact (q_glob ge.qc (ge_kind ge hl) h1 hd).imp fun y z => by rw [z]; exact ⟨v, h2, (h3 _ _).b⟩
def lenL : List D → Res D
  | [.lst xs] => .ok (.int xs.length)
  | _ => .bad
theorem qm_len (hm : X.mg "len" = none) (ha : QM T Fb X scope tg a ma) (hl : scope.names.lookup ("len" : Str) = some .globalImplicit) (hs : ∀ cenv, starEach [a] cenv = (false, eval a cenv) :: starEach [] cenv := by intro _; rfl) :
    QM T Fb X scope tg (.Call (.Name "len" p) [a] [] pos) (mArg lenL (mCons ma mNil)) := by
  refine ⟨fun pins σ H F ρ0 ρ1 s cenv loc S I ge ht ho d' e' => ?_⟩
  have e' : (ma ρ1 >>= fun x => (Res.ok [x] : Res (List D)) >>= lenL) = .ok d' := by
    have : (ma ρ1 >>= fun x => (mNil ρ1 >>= fun xs => .ok (x :: xs))) >>= lenL = .ok d' := e'
    cases q : ma ρ1 with
    | ok y => rw [q] at this; exact this
    | err z => rw [q] at this; cases this
    | bad => rw [q] at this; cases this
  cases q : ma ρ1 with
  | err z => rw [q] at e'; cases e'
  | bad => rw [q] at e'; cases e'
  | ok y =>
    rw [q] at e'
    have e' : lenL [y] = .ok d' := e'
    cases y with
    | lst xs =>
      have e' : Res.ok (D.int xs.length) = .ok d' := e'
      cases e'
      have hq := ha.run pins σ H F ρ0 ρ1 s cenv loc S I ge ht ho _ q
      refine (q_len ge.qc (ge_kind ge hl) hm (hq.imp fun y ⟨v, r1, aa, vs, e1, e2, e3⟩ => ?_) (hs cenv)).imp fun y ⟨t, z⟩ => ⟨.int xs.length, ⟨t, z⟩, rfl⟩
      subst e1
      obtain ⟨its, rv, pl, hz⟩ := I.list (SqL.of e2)
      have := rv.length
      have := e3.length
      refine ⟨aa, its.toArray, r1, pl.isList, ?_, by omega⟩
      simp
      omega
    | non => cases e'
    | bl z => cases e'
    | int z => cases e'
    | str z => cases e'
    | tup z => cases e'
    | obj c z => cases e'
    | scr z => cases e'
structure OpG (op : CmpOp) (g : D → D → Res D) (f : Int → Int → Bool) : Prop where
  i : OpI op f
  g : ∀ x y d, g x y = .ok d → ∃ a b, x = .int a ∧ y = .int b ∧ d = .bl (f a b)
theorem og_le : OpG .LtE leD fun a b => decide (a ≤ b) := ⟨opI_le, fun x y d e => by
  cases x <;> cases y <;> first | (cases e; done) | (cases e; exact ⟨_, _, rfl, rfl, rfl⟩)⟩
theorem og_lt : OpG .Lt ltD fun a b => decide (a < b) := ⟨opI_lt, fun x y d e => by
  cases x <;> cases y <;> first | (cases e; done) | (cases e; exact ⟨_, _, rfl, rfl, rfl⟩)⟩
theorem bind_inv {α β : Type} {r : Res α} {f : α → Res β} {b : β} (h : (r >>= f) = .ok b) : ∃ a, r = .ok a ∧ f a = .ok b := by
  cases r with
  | ok a => exact ⟨a, rfl, h⟩
  | err x => cases h
  | bad => cases h
theorem repInt {G : Gx} {H : Hp} {Av : Addr → Prop} {i : Int} {v : V} {y : Value} (r : RelV v y) (h : RepB G H Av (.int i) v) : IsI i y := by
  have h : v = .int i := h
  subst h
  exact r
section
variable {op op' op'' : CmpOp} {g g' g'' : D → D → Res D} {f f' f'' : Int → Int → Bool}
theorem qm_chain2 (ho : OpG op g f) (ho' : OpG op' g' f') (ha : QM T Fb X scope tg a ma) (hb : QM T Fb X scope tg b mb) (hc : QM T Fb X scope tg c mc) (hm : lastMarks [op, op'] [b, c] = false := by with_unfolding_all rfl) :
    QM T Fb X scope tg (.Compare a [op, op'] [b, c] pos) (mChain g g' ma mb mc) := by
  refine ⟨fun pins σ H F ρ0 ρ1 s cenv loc S I ge ht hoo d' e' => ?_⟩
  obtain ⟨x1, q1, e'⟩ := bind_inv e'
  obtain ⟨x2, q2, e'⟩ := bind_inv e'
  obtain ⟨kk, q3, e'⟩ := bind_inv e'
  obtain ⟨x3, q4, q5⟩ := bind_inv q3
  obtain ⟨i, j, rfl, rfl, rfl⟩ := ho.g _ _ _ q4
  cases q5
  have ra := (ha.run pins σ H F ρ0 ρ1 s cenv loc S I ge ht hoo _ q1).imp fun y ⟨v, r, h⟩ => repInt r h
  have rb := (hb.run pins σ H F ρ0 ρ1 s cenv loc S I ge ht hoo _ q2).imp fun y ⟨v, r, h⟩ => repInt r h
  cases hf : f i j with
  | false =>
    rw [hf] at e'
    have e' : Res.ok (D.bl false) = .ok d' := e'
    cases e'
    refine (q_chain2 (k := 0) ho.i ho'.i ra rb (fun z => by rw [hf] at z; cases z) hm).imp fun y z => ⟨.bl false, ?_, rfl⟩
    rw [z, hf]; rfl
  | true =>
    rw [hf] at e'
    have e' : (mc ρ1 >>= fun z => g' (.int j) z) = .ok d' := e'
    obtain ⟨x4, q6, q7⟩ := bind_inv e'
    obtain ⟨j', k, ej, rfl, rfl⟩ := ho'.g _ _ _ q7
    cases ej
    have rc := (hc.run pins σ H F ρ0 ρ1 s cenv loc S I ge ht hoo _ q6).imp fun y ⟨v, r, h⟩ => repInt r h
    refine (q_chain2 ho.i ho'.i ra rb (fun _ => rc) hm).imp fun y z => ⟨.bl (f' j k), ?_, rfl⟩
    rw [z, hf]; rfl
theorem qm_chain3 (ho : OpG op g f) (ho' : OpG op' g' f') (ho'' : OpG op'' g'' f'') (ha : QM T Fb X scope tg a ma) (hb : QM T Fb X scope tg b mb) (hc : QM T Fb X scope tg c mc) (hd : QM T Fb X scope tg d md) (hm : lastMarks [op, op', op''] [b, c, d] = false := by with_unfolding_all rfl) :
    QM T Fb X scope tg (.Compare a [op, op', op''] [b, c, d] pos) (mAndV (mChain g g' ma mb mc) (mBin g'' mc md)) := by
  refine ⟨fun pins σ H F ρ0 ρ1 s cenv loc S I ge ht hoo d' e' => ?_⟩
  obtain ⟨k1, q0, e'⟩ := bind_inv e'
  obtain ⟨x0, q0, q0'⟩ := bind_inv q0
  obtain ⟨x1, q1, q0⟩ := bind_inv q0
  obtain ⟨x2, q2, q0⟩ := bind_inv q0
  obtain ⟨kk, q3, q0⟩ := bind_inv q0
  obtain ⟨x3, q4, q5⟩ := bind_inv q3
  obtain ⟨i, j, rfl, rfl, rfl⟩ := ho.g _ _ _ q4
  cases q5
  have ra := (ha.run pins σ H F ρ0 ρ1 s cenv loc S I ge ht hoo _ q1).imp fun y ⟨v, r, h⟩ => repInt r h
  have rb := (hb.run pins σ H F ρ0 ρ1 s cenv loc S I ge ht hoo _ q2).imp fun y ⟨v, r, h⟩ => repInt r h
  cases hf : f i j with
  | false =>
    rw [hf] at q0
    have q0 : Res.ok (D.bl false) = .ok x0 := q0
    cases q0
    cases q0'
    have e' : Res.ok (D.bl false) = .ok d' := e'
    cases e'
    refine (q_chain3 (k := 0) (l := 0) ho.i ho'.i ho''.i ra rb (fun z => by rw [hf] at z; cases z) (fun z => by rw [hf] at z; cases z) hm).imp fun y z => ⟨.bl false, ?_, rfl⟩
    rw [z, hf]; rfl
  | true =>
    rw [hf] at q0
    have q0 : (mc ρ1 >>= fun z => g' (.int j) z) = .ok x0 := q0
    obtain ⟨x4, q6, q7⟩ := bind_inv q0
    obtain ⟨j', k, ej, rfl, rfl⟩ := ho'.g _ _ _ q7
    cases ej
    cases q0'
    have rc := (hc.run pins σ H F ρ0 ρ1 s cenv loc S I ge ht hoo _ q6).imp fun y ⟨v, r, h⟩ => repInt r h
    cases hf' : f' j k with
    | false =>
      rw [hf'] at e'
      have e' : Res.ok (D.bl false) = .ok d' := e'
      cases e'
      refine (q_chain3 (l := 0) ho.i ho'.i ho''.i ra rb (fun _ => rc) (fun _ z => by rw [hf'] at z; cases z) hm).imp fun y z => ⟨.bl false, ?_, rfl⟩
      rw [z, hf, hf']; rfl
    | true =>
      rw [hf'] at e'
      have e' : (mc ρ1 >>= fun x => md ρ1 >>= fun y => g'' x y) = .ok d' := e'
      obtain ⟨x5, q8, e'⟩ := bind_inv e'
      obtain ⟨x6, q9, e'⟩ := bind_inv e'
      rw [q6] at q8
      cases q8
      obtain ⟨k', l, ek, rfl, rfl⟩ := ho''.g _ _ _ e'
      cases ek
      have rd := (hd.run pins σ H F ρ0 ρ1 s cenv loc S I ge ht hoo _ q9).imp fun y ⟨v, r, h⟩ => repInt r h
      refine (q_chain3 ho.i ho'.i ho''.i ra rb (fun _ => rc) (fun _ _ => rd) hm).imp fun y z => ⟨.bl (f'' k l), ?_, rfl⟩
      rw [z, hf, hf']; rfl
end
/-! ### the call -/
def pairsOf : D → Res (List D)
  | .lst xs => if xs.all (fun d => match d with | .tup [_, _] => true | _ => false) then .ok xs else .bad
  | _ => .bad
theorem bools_all : ∀ (ds : List D) (bs : List Bool), boolsOf ds = some bs → ds = bs.map D.bl
  | [], bs, h => by cases h; rfl
  | d :: ds, bs, h => by
    cases d with
    | bl b =>
      have h : (boolsOf ds).map (b :: ·) = some bs := h
      cases q : boolsOf ds with
      | none => rw [q] at h; cases h
      | some bs' =>
        rw [q] at h
        cases h
        rw [bools_all ds bs' q]; rfl
    | _ => cases h
/-- what a comprehension without tests gives, one by one -/
theorem compL_at {g : D → Env → Option Env} {me : Env → Res D} {ρ : Env} : ∀ (xs ds : List D), compL g mYes me ρ xs = .ok ds → ds.length = xs.length ∧ ∀ (j : Nat) (x d : D), xs[j]? = some x → ds[j]? = some d → ∃ ρ1, g x ρ = some ρ1 ∧ me ρ1 = .ok d
  | [], ds, h => by cases h; exact ⟨rfl, fun j x d e => by simp at e⟩
  | x :: xs, ds, h => by
    have h : (match g x ρ with
      | none => (Res.bad : Res (List D))
      | some ρ1 => nerr (mYes ρ1) >>= fun b => match b with
        | true => nerr (me ρ1) >>= fun d => compL g mYes me ρ xs >>= fun ds => .ok (d :: ds)
        | false => compL g mYes me ρ xs) = .ok ds := h
    cases q : g x ρ with
    | none => rw [q] at h; cases h
    | some ρ1 =>
      rw [q] at h
      have h : (nerr (me ρ1) >>= fun d => compL g mYes me ρ xs >>= fun ds => Res.ok (d :: ds)) = .ok ds := h
      obtain ⟨d, q1, h⟩ := bind_inv h
      obtain ⟨ds', q2, h⟩ := bind_inv h
      cases h
      obtain ⟨i1, i2⟩ := compL_at xs ds' q2
      have q3 : me ρ1 = .ok d := by
        cases q4 : me ρ1 with
        | ok d' => rw [q4] at q1; exact q1
        | err z => rw [q4] at q1; cases q1
        | bad => rw [q4] at q1; cases q1
      refine ⟨by simp [i1], fun j y e h1 h2 => ?_⟩
      cases j with
      | zero =>
        simp at h1 h2
        subst h1 h2
        exact ⟨ρ1, q, q3⟩
      | succ j => exact i2 j y e (by simpa using h1) (by simpa using h2)
theorem gN_at {i : Nat} {d : D} {ρ ρ1 : Env} (h : gN i d ρ = some ρ1) : ρ1[i]? = some (.v (.d d)) ∧ ∀ j, j ≠ i → ρ1[j]? = ρ[j]? := by
  unfold gN at h
  split at h
  · rename_i hk
    cases h
    exact ⟨List.getElem?_set_self (okS_lt hk), fun j hj => List.getElem?_set_ne (Ne.symm hj)⟩
  · cases h
theorem wipe_atE {ρ : Env} {vs : List Nat} {j : Nat} (h : j ∉ vs) : (wipeE ρ vs)[j]? = ρ[j]? := by
  induction vs with
  | nil => rfl
  | cons v vs ih =>
    rw [List.mem_cons, not_or] at h
    unfold wipeE
    rw [List.getElem?_set_ne (Ne.symm h.1)]
    exact ih h.2
section
variable {x : Str} {elt iter : Expr} {px gpos : Pos} {i k : Nat} {cc P : Addr} {mi me : Env → Res D}
/-- what all(..) or any(..) asks of its generator -/
theorem gen_args {pins : List (Addr × Obj)} {σ : L2.St} {H : Hp} {F : List Addr} {ρ : Env} {Q : VK} {f : List Bool → Bool} {gD : List D → Res D} (hgD : ∀ ds d, gD [.lst ds] = .ok d → ∃ bs, ds = bs.map D.bl ∧ d = .bl (f bs)) (hge : ∀ ds z, gD [.lst ds] ≠ .err z)
    (S : StR (gx X T) Fb H σ ρ F) (hT : T.tab P) (ha : MB T Fb X iter mi) (he : QM T Fb X scope [(x, i)] elt me)
    (o : Out X T σ H (mArg gD (mCons (toE (mComp [i] (mUnF lstOf mi) (gN i) mYes me)) mNil) ρ) fun d => ∀ v H', Same H H' → Rep (gx X T) H' (avo Fb F) d v → Q v H') :
    TWe X iter σ H fun v H1 => ∃ (a : Addr) (xs : List V) (bs : List Bool), v = .ref a ∧ SqL X.K H1 a xs ∧ GxR.TabG H1 P ∧ bs.length = xs.length ∧
      (∀ (s1 : Shared) (cenv : PySem.Env) (its : List Value), Inv X pins σ H1 s1 → Vals xs its → GEnv X s1.heap scope cenv → ∀ (j : Nat) (b : Bool) (u : Value), bs[j]? = some b → its[j]? = some u → Qe X.prog X.w s1.heap cenv [(x, u)] elt (· = .bool b)) ∧ (∀ H2, Same H1 H2 → Q (.bl (f bs)) H2) := by
  refine ha.run σ H F ρ _ S (o.bind.bind.bind.bind.bind.imp fun y ey o1 v H1 s1 r1 => ?_)
  cases y with
  | lst xs =>
    obtain ⟨a, vs, rfl, h1, h2⟩ := r1
    have S1 := S.same s1
    have o1 : Out X T σ H (match decide (xs.length ≤ sizeLine) with
      | true => compL (gN i) mYes me (wipeE ρ [i]) xs
      | false => .bad) fun ds => Out X T σ H (gD [.lst ds]) fun d => ∀ v H', Same H H' → Rep (gx X T) H' (avo Fb F) d v → Q v H' := o1
    by_cases hz : xs.length ≤ sizeLine
    · rw [decide_eq_true hz] at o1
      have o1 : Out X T σ H (compL (gN i) mYes me (wipeE ρ [i]) xs) fun ds => Out X T σ H (gD [.lst ds]) fun d => ∀ v H', Same H H' → Rep (gx X T) H' (avo Fb F) d v → Q v H' := o1
      cases q : compL (gN i) mYes me (wipeE ρ [i]) xs with
      | err z => exact absurd q compL_noerr
      | bad => rw [q] at o1; exact False.elim o1
      | ok ds =>
        rw [q] at o1
        have o1 : Out X T σ H (gD [.lst ds]) fun d => ∀ v H', Same H H' → Rep (gx X T) H' (avo Fb F) d v → Q v H' := o1
        cases q2 : gD [.lst ds] with
        | err z => exact absurd q2 (hge _ z)
        | bad => rw [q2] at o1; exact False.elim o1
        | ok d =>
          rw [q2] at o1
          obtain ⟨bs, rfl, rfl⟩ := hgD _ _ q2
          obtain ⟨c1, c2⟩ := compL_at xs _ q
          rw [List.length_map] at c1
          refine ⟨a, vs, bs, rfl, SqL.of h1, S1.tbs P hT, by rw [c1, h2.length], fun s2 cenv its I rv ge j b u eb eu => ?_, fun H2 s2 => o1 _ H2 (s1.trans s2) rfl⟩
          have hjx : j < xs.length := by have := (List.getElem?_eq_some_iff.mp eb).1; omega
          obtain ⟨w, hw, rw'⟩ := h2.get (List.getElem?_eq_getElem hjx)
          obtain ⟨u', hu', ru⟩ := rv.get hw
          rw [eu] at hu'
          cases hu'
          obtain ⟨ρ1, g1, m1⟩ := c2 j _ (.bl b) (List.getElem?_eq_getElem hjx) (by rw [List.getElem?_map, eb]; rfl)
          obtain ⟨g2, g3⟩ := gN_at g1
          refine (he.run pins σ H1 F ρ ρ1 s2 cenv [(x, u)] S1 I ge (fun x' i' hm => ?_) (fun i' hi' => ?_) _ m1).imp fun y ⟨v, r, h⟩ => ?_
          · simp at hm
            obtain ⟨rfl, rfl⟩ := hm
            exact ⟨_, w, u, g2, by simp [List.lookup_cons], ru, rw'⟩
          · simp at hi'
            rw [g3 i' hi', wipe_atE (by simp; exact hi')]
          · have h : v = .bl b := h
            subst h
            exact r
    · rw [decide_eq_false hz] at o1; exact False.elim o1
  | _ => exact False.elim o1
theorem allD_inv (ds : List D) (d : D) (h : allD [.lst ds] = .ok d) : ∃ bs : List Bool, ds = bs.map D.bl ∧ d = .bl (bs.all id) := by
  have h : (opt (boolsOf ds) >>= fun ns => (Res.ok (.bl (ns.all id)) : Res D)) = .ok d := h
  cases q : boolsOf ds with
  | none => rw [q] at h; cases h
  | some bs =>
    rw [q] at h
    cases h
    exact ⟨bs, bools_all ds bs q, rfl⟩
theorem anyD_inv (ds : List D) (d : D) (h : anyD [.lst ds] = .ok d) : ∃ bs : List Bool, ds = bs.map D.bl ∧ d = .bl (bs.any id) := by
  have h : (opt (boolsOf ds) >>= fun ns => (Res.ok (.bl (ns.any id)) : Res D)) = .ok d := h
  cases q : boolsOf ds with
  | none => rw [q] at h; cases h
  | some bs =>
    rw [q] at h
    cases h
    exact ⟨bs, bools_all ds bs q, rfl⟩
theorem allD_ne (ds : List D) (z : Exc) : allD [.lst ds] ≠ .err z := by
  show (opt (boolsOf ds) >>= fun ns => (Res.ok (.bl (ns.all id)) : Res D)) ≠ .err z
  cases boolsOf ds <;> (intro h; cases h)
theorem anyD_ne (ds : List D) (z : Exc) : anyD [.lst ds] ≠ .err z := by
  show (opt (boolsOf ds) >>= fun ns => (Res.ok (.bl (ns.any id)) : Res D)) ≠ .err z
  cases boolsOf ds <;> (intro h; cases h)
theorem me_allG (i : Nat) (hr : Room k X.A) (hm : X.mg "all" = none) (hT : T.tab P) (TB : GxR.TabB X.base X.mg cc P) (ha : MB T Fb X iter mi) (he : QM T Fb X scope [(x, i)] elt me)
    (hcode : X.env.code = .ref cc := by rfl) (S0 : genB X.env.scope.names scope [x] = true) (hg : Gl X "all" := by rfl)
    (hs : ∀ v, genFold iter X.env v = pure v := by intro _; rfl)
    (hst : starEach [.GeneratorExp elt [⟨.Name x px, iter, [], 0⟩] scope gpos] X.env = (false, eval (.GeneratorExp elt [⟨.Name x px, iter, [], 0⟩] scope gpos) X.env) :: starEach [] X.env := by rfl) :
    ME T Fb X (.Call (.Name "all" p) [.GeneratorExp elt [⟨.Name x px, iter, [], 0⟩] scope gpos] [] pos) (mArg allD (mCons (toE (mComp [i] (mUnF lstOf mi) (gN i) mYes me)) mNil)) := by
  refine ⟨fun σ H F ρ Q S o pins s I => ?_⟩
  refine wpAny_Call_Name_kw (ld_blt I hg hm (show bootBuiltins ("all" : Str) = some (.builtin "all") by decide +kernel) ?_)
  refine PyProof.Rows.callWith_builtin1 ?_ hst (by rfl)
  rw [hst]
  show wpAny _ _ (spliced ((false, eval (.GeneratorExp elt [⟨.Name x px, iter, [], 0⟩] scope gpos) X.env) :: backTo pos (starEach [] X.env))) _ _ s
  refine Calls.spliced_cons (gen_list (R := fun bs H1 => ∀ H2, Same H1 H2 → Q (.bl (bs.all id)) H2) hr TB hcode (genS_of S0 I.ok) pe_tw hs I (gen_args (gD := allD) allD_inv allD_ne S hT ha he o) fun bs H1 g s5 hR hG => ?_)
  obtain ⟨fp, wr, G, F', St, W, hst', htr, hI⟩ := hG
  refine Calls.spliced_nil ?_
  refine call_all_walkS (W.self 0 _ _ _ hst' ⟨g, fp, wr, G, _, F', St, _, rfl, W, hst', htr, fun s' hmv => ?_⟩)
  obtain ⟨H2, hT2, J⟩ := hI s' hmv
  refine ⟨.bl _, H2, J, rfl, ?_⟩
  rw [(range_bs bs).1]
  exact hR H2 hT2
theorem me_anyG (i : Nat) (hr : Room k X.A) (hm : X.mg "any" = none) (hT : T.tab P) (TB : GxR.TabB X.base X.mg cc P) (ha : MB T Fb X iter mi) (he : QM T Fb X scope [(x, i)] elt me)
    (hcode : X.env.code = .ref cc := by rfl) (S0 : genB X.env.scope.names scope [x] = true) (hg : Gl X "any" := by rfl)
    (hs : ∀ v, genFold iter X.env v = pure v := by intro _; rfl)
    (hst : starEach [.GeneratorExp elt [⟨.Name x px, iter, [], 0⟩] scope gpos] X.env = (false, eval (.GeneratorExp elt [⟨.Name x px, iter, [], 0⟩] scope gpos) X.env) :: starEach [] X.env := by rfl) :
    ME T Fb X (.Call (.Name "any" p) [.GeneratorExp elt [⟨.Name x px, iter, [], 0⟩] scope gpos] [] pos) (mArg anyD (mCons (toE (mComp [i] (mUnF lstOf mi) (gN i) mYes me)) mNil)) := by
  refine ⟨fun σ H F ρ Q S o pins s I => ?_⟩
  refine wpAny_Call_Name_kw (ld_blt I hg hm (show bootBuiltins ("any" : Str) = some (.builtin "any") by decide +kernel) ?_)
  refine PyProof.Rows.callWith_builtin1 ?_ hst (by rfl)
  rw [hst]
  show wpAny _ _ (spliced ((false, eval (.GeneratorExp elt [⟨.Name x px, iter, [], 0⟩] scope gpos) X.env) :: backTo pos (starEach [] X.env))) _ _ s
  refine Calls.spliced_cons (gen_list (R := fun bs H1 => ∀ H2, Same H1 H2 → Q (.bl (bs.any id)) H2) hr TB hcode (genS_of S0 I.ok) pe_tw hs I (gen_args (gD := anyD) anyD_inv anyD_ne S hT ha he o) fun bs H1 g s5 hR hG => ?_)
  obtain ⟨fp, wr, G, F', St, W, hst', htr, hI⟩ := hG
  refine Calls.spliced_nil ?_
  refine call_any_walkS (W.self 0 _ _ _ hst' ⟨g, fp, wr, G, _, F', St, _, rfl, W, hst', htr, fun s' hmv => ?_⟩)
  obtain ⟨H2, hT2, J⟩ := hI s' hmv
  refine ⟨.bl _, H2, J, rfl, ?_⟩
  rw [(range_bs bs).2]
  exact hR H2 hT2
theorem pairs_at {G : Gx} {H : Hp} {Av : Addr → Prop} : ∀ {xs : List D} {vs : List V}, RepL G H Av xs vs → xs.all (fun d => match d with | .tup [_, _] => true | _ => false) = true →
    ∃ Tv : List (Addr × V × V), vs = Tv.map (fun q => V.ref q.1) ∧ (∀ q ∈ Tv, SqT G.K H q.1 [q.2.1, q.2.2]) ∧ ∀ (j : Nat) (q : Addr × V × V), Tv[j]? = some q → ∃ da db, xs[j]? = some (.tup [da, db]) ∧ Rep G H Av da q.2.1 ∧ Rep G H Av db q.2.2
  | [], vs, h, _ => by
    have h : vs = [] := h
    subst h
    exact ⟨[], rfl, fun q hq => (by cases hq), fun j q e => by simp at e⟩
  | d :: xs, vs, h, hp => by
    obtain ⟨v, vr, rfl, h1, h2⟩ := h
    rw [List.all_cons, Bool.and_eq_true] at hp
    obtain ⟨Tv, t1, t2, t3⟩ := pairs_at h2 hp.2
    have hp1 := hp.1
    obtain ⟨da, db, rfl⟩ : ∃ da db, d = .tup [da, db] := by
      cases d with
      | tup l =>
        match l, hp1 with
        | [da, db], _ => exact ⟨da, db, rfl⟩
      | _ => cases hp1
    obtain ⟨a, ws, rfl, h3, h4⟩ := h1
    obtain ⟨va, w1, rfl, r1, vb, w2, rfl, r2, r3⟩ := h4
    have r3 : w2 = [] := r3
    subst r3
    refine ⟨(a, va, vb) :: Tv, by rw [List.map_cons, ← t1], fun q hq => ?_, fun j q e => ?_⟩
    · rcases List.mem_cons.mp hq with rfl | hq
      · exact tup_sq h3
      · exact t2 q hq
    · cases j with
      | zero =>
        simp at e
        subst e
        exact ⟨da, db, rfl, r1, r2⟩
      | succ j => exact t3 j q (by simpa using e)
/-- .. of a generator with two names -/
theorem gen_args2 {xa xb : Str} {ia ib : Nat} (hne : xa ≠ xb) (hni : ia ≠ ib) {pins : List (Addr × Obj)} {σ : L2.St} {H : Hp} {F : List Addr} {ρ : Env} {Q : VK} {f : List Bool → Bool} {gD : List D → Res D} (hgD : ∀ ds d, gD [.lst ds] = .ok d → ∃ bs, ds = bs.map D.bl ∧ d = .bl (f bs)) (hge : ∀ ds z, gD [.lst ds] ≠ .err z)
    (S : StR (gx X T) Fb H σ ρ F) (hT : T.tab P) (ha : MB T Fb X iter mi) (he : QM T Fb X scope [(xa, ia), (xb, ib)] elt me)
    (o : Out X T σ H (mArg gD (mCons (toE (mComp [ia, ib] (mUnF pairsOf mi) (gQ (gSc (gN ia) (gSc (gN ib) gS0))) mYes me)) mNil) ρ) fun d => ∀ v H', Same H H' → Rep (gx X T) H' (avo Fb F) d v → Q v H') :
    TWe X iter σ H fun v H1 => ∃ (a : Addr) (Tv : List (Addr × V × V)) (bs : List Bool), v = .ref a ∧ SqL X.K H1 a (Tv.map fun q => V.ref q.1) ∧ (∀ q ∈ Tv, SqT X.K H1 q.1 [q.2.1, q.2.2]) ∧ GxR.TabG H1 P ∧ bs.length = Tv.length ∧
      (∀ (s1 : Shared) (cenv : PySem.Env), Inv X pins σ H1 s1 → GEnv X s1.heap scope cenv → ∀ (j : Nat) (b : Bool) (q : Addr × V × V) (ua ub : Value), bs[j]? = some b → Tv[j]? = some q → RelV q.2.1 ua → RelV q.2.2 ub → Qe X.prog X.w s1.heap cenv [(xa, ua), (xb, ub)] elt (· = .bool b)) ∧ (∀ H2, Same H1 H2 → Q (.bl (f bs)) H2) := by
  refine ha.run σ H F ρ _ S (o.bind.bind.bind.bind.bind.imp fun y ey o1 v H1 s1 r1 => ?_)
  cases y with
  | lst xs =>
    obtain ⟨a, vs, rfl, h1, h2⟩ := r1
    have S1 := S.same s1
    have o1 : Out X T σ H (pairsOf (.lst xs)) _ := o1
    by_cases hp : xs.all (fun d => match d with | .tup [_, _] => true | _ => false) = true
    case neg =>
      have o1 : Out X T σ H (if xs.all (fun d => match d with | .tup [_, _] => true | _ => false) then Res.ok xs else .bad) _ := o1
      rw [if_neg hp] at o1
      exact False.elim o1
    have o1 : Out X T σ H (if xs.all (fun d => match d with | .tup [_, _] => true | _ => false) then Res.ok xs else .bad) _ := o1
    rw [if_pos hp] at o1
    obtain ⟨Tv, hTl, hTs, hTr⟩ := pairs_at h2 hp
    have o1 : Out X T σ H (match decide (xs.length ≤ sizeLine) with
      | true => compL (gQ (gSc (gN ia) (gSc (gN ib) gS0))) mYes me (wipeE ρ [ia, ib]) xs
      | false => .bad) fun ds => Out X T σ H (gD [.lst ds]) fun d => ∀ v H', Same H H' → Rep (gx X T) H' (avo Fb F) d v → Q v H' := o1
    by_cases hz : xs.length ≤ sizeLine
    · rw [decide_eq_true hz] at o1
      have o1 : Out X T σ H (compL (gQ (gSc (gN ia) (gSc (gN ib) gS0))) mYes me (wipeE ρ [ia, ib]) xs) fun ds => Out X T σ H (gD [.lst ds]) fun d => ∀ v H', Same H H' → Rep (gx X T) H' (avo Fb F) d v → Q v H' := o1
      cases q : compL (gQ (gSc (gN ia) (gSc (gN ib) gS0))) mYes me (wipeE ρ [ia, ib]) xs with
      | err z => exact absurd q compL_noerr
      | bad => rw [q] at o1; exact False.elim o1
      | ok ds =>
        rw [q] at o1
        have o1 : Out X T σ H (gD [.lst ds]) fun d => ∀ v H', Same H H' → Rep (gx X T) H' (avo Fb F) d v → Q v H' := o1
        cases q2 : gD [.lst ds] with
        | err z => exact absurd q2 (hge _ z)
        | bad => rw [q2] at o1; exact False.elim o1
        | ok d =>
          rw [q2] at o1
          obtain ⟨bs, rfl, rfl⟩ := hgD _ _ q2
          obtain ⟨c1, c2⟩ := compL_at xs _ q
          rw [List.length_map] at c1
          refine ⟨a, Tv, bs, rfl, by rw [← hTl]; exact SqL.of h1, fun q hq => (hTs q hq), S1.tbs P hT, ?_, fun s2 cenv I ge j b tq ua ub eb eq ra rb => ?_, fun H2 s2 => o1 _ H2 (s1.trans s2) rfl⟩
          · have := congrArg List.length hTl
            rw [List.length_map, h2.length] at this
            omega
          obtain ⟨da, db, ex, r1, r2⟩ := hTr j tq eq
          obtain ⟨ρ1, g1, m1⟩ := c2 j _ (.bl b) ex (by rw [List.getElem?_map, eb]; rfl)
          obtain ⟨ρm, g2, g3⟩ : ∃ ρm, gN ia da (wipeE ρ [ia, ib]) = some ρm ∧ gN ib db ρm = some ρ1 := by
            have g1 : (match gN ia da (wipeE ρ [ia, ib]) with
              | some ρ1 => (match gN ib db ρ1 with
                | some ρ2 => some ρ2
                | none => none)
              | none => none) = some ρ1 := g1
            cases q1 : gN ia da (wipeE ρ [ia, ib]) with
            | none => rw [q1] at g1; cases g1
            | some ρm =>
              rw [q1] at g1
              have g1 : (match gN ib db ρm with
                | some ρ2 => some ρ2
                | none => none) = some ρ1 := g1
              cases q2 : gN ib db ρm with
              | none => rw [q2] at g1; cases g1
              | some ρ2 => rw [q2] at g1; cases g1; exact ⟨ρm, rfl, q2⟩
          obtain ⟨n1, n2⟩ := gN_at g2
          obtain ⟨n3, n4⟩ := gN_at g3
          refine (he.run pins σ H1 F ρ ρ1 s2 cenv [(xa, ua), (xb, ub)] S1 I ge (fun x' i' hm => ?_) (fun i' hi' => ?_) _ m1).imp fun y ⟨v, r, h⟩ => ?_
          · simp at hm
            rcases hm with ⟨rfl, rfl⟩ | ⟨rfl, rfl⟩
            · exact ⟨_, tq.2.1, ua, by rw [n4 _ hni]; exact n1, by simp [List.lookup_cons], ra, r1⟩
            · exact ⟨_, tq.2.2, ub, n3, by rw [List.lookup_cons, (beq_eq_false_iff_ne.mpr (Ne.symm hne) : (x' == xa) = false)]; simp [List.lookup_cons], rb, r2⟩
          · simp at hi'
            rw [n4 i' hi'.2, n2 i' hi'.1, wipe_atE (by simp; exact hi')]
          · have h : v = .bl b := h
            subst h
            exact r
    · rw [decide_eq_false hz] at o1; exact False.elim o1
  | _ => exact False.elim o1
theorem me_allG2 {xa xb : Str} {pa pb pt : Pos} {kt : Nat} (ia ib : Nat) (hr : Room k X.A) (hm : X.mg "all" = none) (hT : T.tab P) (TB : GxR.TabB X.base X.mg cc P) (ha : MB T Fb X iter mi) (he : QM T Fb X scope [(xa, ia), (xb, ib)] elt me)
    (hni : ia ≠ ib := by decide) (hcode : X.env.code = .ref cc := by rfl) (S0 : genB X.env.scope.names scope [xa, xb] = true) (hne : xa ≠ xb := by decide) (hg : Gl X "all" := by rfl)
    (hs : ∀ v, genFold iter X.env v = pure v := by intro _; rfl)
    (hst : starEach [.GeneratorExp elt [⟨.Tuple [.Name xa pa, .Name xb pb] kt pt, iter, [], 0⟩] scope gpos] X.env = (false, eval (.GeneratorExp elt [⟨.Tuple [.Name xa pa, .Name xb pb] kt pt, iter, [], 0⟩] scope gpos) X.env) :: starEach [] X.env := by rfl) :
    ME T Fb X (.Call (.Name "all" p) [.GeneratorExp elt [⟨.Tuple [.Name xa pa, .Name xb pb] kt pt, iter, [], 0⟩] scope gpos] [] pos) (mArg allD (mCons (toE (mComp [ia, ib] (mUnF pairsOf mi) (gQ (gSc (gN ia) (gSc (gN ib) gS0))) mYes me)) mNil)) := by
  refine ⟨fun σ H F ρ Q S o pins s I => ?_⟩
  refine wpAny_Call_Name_kw (ld_blt I hg hm (show bootBuiltins ("all" : Str) = some (.builtin "all") by decide +kernel) ?_)
  refine PyProof.Rows.callWith_builtin1 ?_ hst (by rfl)
  rw [hst]
  show wpAny _ _ (spliced ((false, eval (.GeneratorExp elt [⟨.Tuple [.Name xa pa, .Name xb pb] kt pt, iter, [], 0⟩] scope gpos) X.env) :: backTo pos (starEach [] X.env))) _ _ s
  refine Calls.spliced_cons (gen_listT (R := fun bs H1 => ∀ H2, Same H1 H2 → Q (.bl (bs.all id)) H2) hr TB hcode (genS2_of S0 hne I.ok) pe_tw hs I (gen_args2 hne hni (gD := allD) allD_inv allD_ne S hT ha he o) fun bs H1 g s5 hR hG => ?_)
  obtain ⟨fp, wr, G, F', St, W, hst', htr, hI⟩ := hG
  refine Calls.spliced_nil ?_
  refine call_all_walkS (W.self 0 _ _ _ hst' ⟨g, fp, wr, G, _, F', St, _, rfl, W, hst', htr, fun s' hmv => ?_⟩)
  obtain ⟨H2, hT2, J⟩ := hI s' hmv
  refine ⟨.bl _, H2, J, rfl, ?_⟩
  rw [(range_bs bs).1]
  exact hR H2 hT2
end
end
end Cr
/-! Core, part 25: len(set(xs)); defs with a table; what the head says of them. -/
namespace Cr
open PySem PySem.Spec PyProof.Rows L2
def lenSetD : List D → Res D
  | [.lst xs] => match intsOf xs with
    | some ns => if ns.Nodup ∧ ns.length ≤ 4000 then .ok (.int ns.length) else .bad
    | none => .bad
  | _ => .bad
section
variable {T : CT} {Fb : Gh} {X : Cx} {a : Expr} {p p2 q pos : Pos} {mr : Env → Res (List D)}
theorem me_lenSet {ma : Env → Res D} (hm : X.mg "len" = none) (hm2 : X.mg "set" = none) (ha : MB T Fb X a ma) (hc : X.calm = true := by rfl) (hg : Gl X "len" := by rfl) (hg2 : Gl X "set" := by rfl)
    (na : starEach [a] X.env = (false, eval a X.env) :: starEach [] X.env := by rfl) : ME T Fb X (.Call (.Name "len" p) [.Call (.Name "set" p2) [a] [] q] [] pos) (mArg lenSetD (mCons ma mNil)) := by
  refine ⟨fun σ H F ρ Q S o => (RZ.pe_lenSetI hg hm hg2 hm2 pe_tw hc na).tw ?_⟩
  refine ha.run σ H F ρ _ S (o.bind.bind.imp fun y _ o1 v H1 s1 r1 => ?_)
  cases y with
  | lst xs =>
    obtain ⟨l, vs, rfl, h1, h2⟩ := r1
    have o1 : Out X T σ H (match intsOf xs with
      | some ns => if ns.Nodup ∧ ns.length ≤ 4000 then (.ok (.int ns.length) : Res D) else .bad
      | none => .bad) _ := o1
    cases qi : intsOf xs with
    | none => rw [qi] at o1; exact False.elim o1
    | some ns =>
      rw [qi] at o1
      have o1 : Out X T σ H (if ns.Nodup ∧ ns.length ≤ 4000 then (.ok (.int ns.length) : Res D) else .bad) _ := o1
      have hv := ints_rep h2 qi
      subst hv
      obtain ⟨⟨n1, n2⟩, f⟩ := o1.if
      exact ⟨l, ns, rfl, SqL.of h1, n1, n2, f _ _ s1 rfl⟩
  | _ => exact False.elim o1
end
section
variable {P : Program} {w : World} {K : PySem.W.Frag} {mg : Str → Option Value} {base : Heap} {T : CT} {x qual : Str} {params : Arguments} {body : List Stmt} {scope : Scope} {dvs : List V} {kws : List (Str × V)} {d : He.Defn} {fd : FuncData} {N ps : List Str} {k n c : Nat}
theorem fn_ofC {CX : CXT} {sp : Sp} (F : FunD K x qual params body scope dvs kws (He.fAd K d) fd) (S : FnScope N ps scope) (len : ∀ vs H Q E, sp vs H Q E → vs.length = ps.length)
    (hbody : ∀ (A : Around) (outer : List PySem.Env) (s : Shared) (H : Hp) (vs : List V) (Q : VK) (E : XK), Room k (A.deeper (envOfC qual scope s.heap.objs.size (He.fAd K d) (.ref (He.codeOf K d)))) → sp vs H Q E →
      ∃ t, PSs (cxOf CX P w K mg base N qual scope (He.fAd K d) (.ref (He.codeOf K d)) A outer s H E) body t ∧ t { nx := fun _ H' => Q .non H', rt := Q } (L2.start N vs) H) : FnOk P w K mg base CX (k + 1) (He.fAd K d) fd ps sp := by
  obtain ⟨oc, od, dV, kV, doc, pm, an, cdv, ct, osl, rfl, lk, hcd, _, _⟩ := F.ex
  obtain ⟨cc, rfl⟩ := He.codeIn_ref hcd
  have e : He.codeOf K d = cc := He.codeOf_eq lk rfl
  rw [e] at hbody
  exact fn_of lk hcd S len fun A outer s H vs Q E hr hsp => hbody A outer s H vs Q E hr hsp
theorem fn_okC {m : Env → Flow} (F : FunD K x qual params body scope dvs kws (He.fAd K d) fd) (S : FnScope N ps scope) (hps : ps.length = n)
    (hb : ∀ (A : Around) (outer : List PySem.Env) (s : Shared) (H : Hp) (E : XK) (Fb : Gh), Room k (A.deeper (envOfC qual scope s.heap.objs.size (He.fAd K d) (.ref (He.codeOf K d)))) → MSs T Fb (cxOf (L2.CX P w) P w K mg base N qual scope (He.fAd K d) (.ref (He.codeOf K d)) A outer s H E) body m) :
    FnOk P w K mg base (L2.CX P w) (k + 1) (He.fAd K d) fd ps (spD K T n (runD N.length m)) := by
  refine fn_ofC F S (fun vs H Q E h => by rw [hps]; exact h.1) fun A outer s H vs Q E hr h => ⟨_, pss_tw, ?_⟩
  obtain ⟨hl, tb, Av, ds, hav, r, o⟩ := h
  refine (hb A outer s H E ⟨Av, none⟩ hr).run _ H [] (startE N.length ds) _ ?_ ?_
  · have e : avo ⟨Av, none⟩ [] = Av := funext fun a => propext ⟨fun z => z.elim (fun z => by cases z) id, .inr⟩
    refine ⟨⟨[], ?_, List.nodup_nil, fun a ha => absurd ha (by simp)⟩, fun a ha => absurd ha (by simp), fun a h => ⟨hav a h, by simp⟩, fun _ h => (nomatch h), fun a h => ⟨tb a h, by simp⟩⟩
    rw [e]
    unfold L2.start startE
    rw [r.length]
    exact repEnv_start r
  · have toAv : ∀ {F' : List Addr} {H' : Hp} {d : D} {v : V}, Rep ⟨K, T⟩ H' (avo ⟨Av, none⟩ F') d v → Rep ⟨K, T⟩ H' Av d v := fun {F' H' d v} r => Rep.mono (kept_sub fun a z => .inr z) d r
    unfold runD at o
    cases q : m (startE N.length ds) with
    | nx ρ' => rw [q] at o; exact fun σ' H' F' p S' => o .non H' p.nil_same rfl
    | rt d ρ' => rw [q] at o; exact fun v σ' H' F' p S' r => o v H' p.nil_same (toAv r)
    | er z ρ' =>
      rw [q] at o
      exact ⟨_, takes_of rfl rfl rfl rfl, fun cls d σ' H' F' p S' r => o cls d H' p.nil_same r⟩
    | bad => rw [q] at o; exact o
theorem init_okC {m : Env → Flow} (F : FunD K x qual params body scope dvs kws (He.fAd K d) fd) (S : FnScope N ps scope) (hps : ps.length = n + 1)
    (hb : ∀ (A : Around) (outer : List PySem.Env) (s : Shared) (H : Hp) (E : XK) (Fb : Gh), Room k (A.deeper (envOfC qual scope s.heap.objs.size (He.fAd K d) (.ref (He.codeOf K d)))) → MSs T Fb (cxOf (L2.CX P w) P w K mg base N qual scope (He.fAd K d) (.ref (He.codeOf K d)) A outer s H E) body m) :
    FnOk P w K mg base (L2.CX P w) (k + 1) (He.fAd K d) fd ps (spI K T c n (runI N.length c m)) := by
  refine fn_ofC F S (fun vs H Q E h => by rw [hps]; exact h.1) fun A outer s H vs Q E hr h => ⟨_, pss_tw, ?_⟩
  obtain ⟨hl, tb, Av, ds, a, dx, vr, rfl, hav, nax, hx, r, o⟩ := h
  have eA : (fun b => b = a ∨ Av b) = avo ⟨Av, some a⟩ [a] := funext fun b => propext ⟨fun z => z.elim (fun z => .inl (by simp [z])) .inr, fun z => z.elim (fun z => .inl (by simpa using z)) .inr⟩
  rw [eA] at r
  refine (hb A outer s H E ⟨Av, some a⟩ hr).run _ H [a] (startI N.length c ds) _ ?_ ?_
  · refine ⟨⟨[a], ?_, by simp, fun b hb => hb⟩, fun b hb => ?_, fun b h => ⟨hav b h, fun z => nax ?_⟩, fun b h => ?_, fun b h => ⟨tb b h, fun z => ?_⟩⟩
    · have e : N.length - (V.ref a :: vr).length = N.length - (ds.length + 1) := by rw [List.length_cons, r.length]
      unfold L2.start startI
      rw [e]
      exact ⟨some (.ref a), _, [a], [], rfl, rfl, ⟨a, dx, [], [], rfl, rfl, hx, rfl, rfl⟩, repEnv_start r⟩
    · rw [List.mem_singleton.mp hb, hx]; exact fun z => by cases z
    · rw [← List.mem_singleton.mp z]; exact h
    · cases h; exact ⟨rfl, c, [], rfl⟩
    · obtain ⟨ps, h1, _⟩ := tb b h
      rw [List.mem_singleton.mp z, hx] at h1
      cases h1
  · have kp : ∀ {H' : Hp} {F' : List Addr}, Post H [a] H' F' → ∀ b o, H b = some o → b ≠ a → Lke o (H' b) := fun p b o h n => p.keep b o h (by simpa using n)
    unfold runI at o
    cases q : m (startI N.length c ds) with
    | nx ρ' =>
      rw [q] at o
      intro σ' H' F' p S'
      unfold finI at o
      cases ρ' with
      | nil => exact False.elim o
      | cons s0 ρ' =>
        cases s0 with
        | no => exact False.elim o
        | v g => exact False.elim o
        | oo c' fs =>
          by_cases hc : c' = c ∧ fs.map (·.1) = flds c
          · have o : (match (if c' = c ∧ fs.map (·.1) = flds c then Res.ok (fs.map fun p => fdD p.2) else .bad) with
              | .ok fs => ∀ H', (∀ b o, H b = some o → b ≠ a → Lke o (H' b)) → Rep ⟨K, T⟩ H' Av (.obj c fs) (.ref a) → Q .non H'
              | .err z => ∀ cls d H', (∀ b o, H b = some o → b ≠ a → Lke o (H' b)) → ExcRep ⟨K, T⟩ H' z cls d → E cls d H'
              | .bad => False) := o
            rw [if_pos hc] at o
            obtain ⟨hc1, hc2⟩ := hc
            subst hc1
            obtain ⟨a', dx', vs', p', e1, h1, h2, mF, pF, nap, ndp⟩ := S'.self (i := 0) rfl
            obtain ⟨ea, _⟩ := S'.sf a rfl
            rw [ea] at e1
            cases e1
            have nAv : ∀ b ∈ F', ¬ Av b := fun b hb z => (S'.fb b z).2 hb
            have keys : vs'.map (·.1) = flds c' := by rw [h2.keys, hc2]
            have ev : vs' = (flds c').zip (vs'.map (·.2)) := by rw [← keys, zip_fst_snd]
            have wh : RepL ⟨K, T⟩ H' Av (fs.map fun p => fdD p.2) (vs'.map (·.2)) := RepFs.whole (fun b z => .inr z) h2 fun b hb => nAv b (pF b hb)
            refine o H' (kp p) ⟨a, dx', vs'.map (·.2), rfl, ⟨by rw [← ev]; exact h1, nAv a mF⟩, ?_, wh⟩
            rw [← keys, List.length_map, List.length_map]
          · have o : (match (if c' = c ∧ fs.map (·.1) = flds c then Res.ok (fs.map fun p => fdD p.2) else .bad) with
              | .ok fs => ∀ H', (∀ b o, H b = some o → b ≠ a → Lke o (H' b)) → Rep ⟨K, T⟩ H' Av (.obj c fs) (.ref a) → Q .non H'
              | .err z => ∀ cls d H', (∀ b o, H b = some o → b ≠ a → Lke o (H' b)) → ExcRep ⟨K, T⟩ H' z cls d → E cls d H'
              | .bad => False) := o
            rw [if_neg hc] at o
            exact False.elim o
    | rt d ρ' => rw [q] at o; exact False.elim o
    | er z ρ' =>
      rw [q] at o
      exact ⟨_, takes_of rfl rfl rfl rfl, fun cls d σ' H' F' p S' r => o cls d H' (kp p) r⟩
    | bad => rw [q] at o; exact False.elim o
end
/-! ### the head -/
def exB (xs : List (Fg → Bool)) (K : Fg) : Bool := xs.all fun f => f K
theorem saysX_of {fa : List He.Fa} {fn : List He.DefD} {xs : List (Fg → Bool)} {tf : List He.Defn} {w : World} {h : Heap} {K : Fg} (c : He.SaysX fa fn [] tf (exB xs) w h K) : SaysX fa fn xs K := by
  have c1 : He.obsD fa fn K = He.valD fn := c.t.d
  have c2 : exB xs K = true := c.more
  have e1 : ((fa.all fun f => f.ok K) && fn.all fun d => d.ok K) = true := congrArg (fun z : He.AlD => z.1) c1
  have e2 : fn.map (fun d => He.fnW K d.at_) = fn.map He.DefD.val := congrArg (fun z : He.AlD => z.2) c1
  show ((((fa.all fun f => f.ok K) && fn.all fun d => d.ok K) && (xs.all fun f => f K), fn.map fun d => He.fnW K d.at_) : He.AlD) = (true, fn.map He.DefD.val)
  have c2 : (xs.all fun f => f K) = true := c2
  rw [e1, c2, e2]; rfl
theorem tabG_of {K : Fg} {tf : List He.Defn} {H : Hp} (h : ∀ p ∈ tf.map (He.cT K), H p.2 = some (.tbl #[])) : ∀ a, a ∈ tf.map (fun p => (He.cT K p).2) → GxR.TabG H a := fun a ha => by
  obtain ⟨p, hp, rfl⟩ := List.mem_map.mp ha
  exact ⟨#[], h _ (List.mem_map.mpr ⟨p, hp, rfl⟩), trivial⟩
theorem tabB_of {K : Fg} {tf : List He.Defn} {base : Heap} {mg : Str → Option Value} (h : ∀ p ∈ tf.map (He.cT K), LamX.TabB base mg p.1 p.2) : ∀ p ∈ tf, GxR.TabB base mg (He.cT K p).1 (He.cT K p).2 := fun p hp => by
  obtain ⟨h1, h2, h3⟩ := h _ (List.mem_map.mpr ⟨p, hp, rfl⟩)
  exact ⟨h1, h2, h3⟩
end Cr
/-! Core, part 26: comprehensions with two fors. -/
namespace Cr
open PySem PySem.Spec PyProof.Rows L2
theorem nerr_inv {α : Type} {r : Res α} {a : α} (h : nerr r = .ok a) : r = .ok a := by
  cases r with
  | ok b => exact h
  | err z => cases h
  | bad => cases h
theorem nerr_ne {α : Type} {r : Res α} {z : Exc} : nerr r ≠ .err z := fun h => by
  cases r with
  | ok b => cases h
  | err z => cases h
  | bad => cases h
def compL2 (g : D → Env → Option Env) (ml : Env → Res D) (ρ : Env) : List D → Res (List D)
  | [] => .ok []
  | x :: xs => match g x ρ with
    | none => .bad
    | some ρ1 => nerr (nerr (ml ρ1) >>= lstOf) >>= fun ds => compL2 g ml ρ xs >>= fun es => .ok (ds ++ es)
theorem compL2_noerr {g : D → Env → Option Env} {ml : Env → Res D} {ρ : Env} : ∀ {xs : List D} {z : Exc}, compL2 g ml ρ xs ≠ .err z
  | [], z, h => by cases h
  | x :: xs, z, h => by
    unfold compL2 at h
    split at h
    · cases h
    · rename_i ρ1 _
      cases q : nerr (nerr (ml ρ1) >>= lstOf) with
      | ok ds =>
        rw [q] at h
        have h : (compL2 g ml ρ xs >>= fun es => Res.ok (ds ++ es)) = .err z := h
        cases q3 : compL2 g ml ρ xs with
        | ok es => rw [q3] at h; cases h
        | err y => exact compL2_noerr q3
        | bad => rw [q3] at h; cases h
      | err y => exact nerr_ne q
      | bad => rw [q] at h; cases h
def TWi (X : Cx) (tg iter : Expr) : TI := fun σ H R => ∀ (pins : List (Addr × Obj)) (s : Shared), Inv X pins σ H s →
    wpAny (model X.prog X.w) X.A (eval iter X.env) (fun v s1 => wpAny (model X.prog X.w) X.A (pyIter v) (PIE X pins σ tg R) X.xe s1) X.xe s
section
variable {T : CT} {Fb : Gh} {X : Cx} {tg iter tg1 iter1 elt : Expr} {scope : Scope} {own : List (Str × Nat)} {vs1 : List Nat} {mi mi1 : Env → Res (List D)} {g g1 : D → Env → Option Env} {me : Env → Res D} {pos : Pos}
def blkI (X : Cx) (scope : Scope) (tg iter : Expr) : TI := fun σ H R => ∀ (s0 : Shared) (H0 : Hp) (C : Addr) (cl : List (Str × Addr)) (fp : List Addr), TWi (X.blk s0 H0 scope (compEnvC scope cl C X.env) fp) tg iter σ H R
theorem pi_blk (s0 : Shared) (H0 : Hp) (C : Addr) (cl : List (Str × Addr)) (fp : List Addr) : PI (X.blk s0 H0 scope (compEnvC scope cl C X.env) fp) tg iter (blkI X scope tg iter) := ⟨fun pins s σ H R I h => h s0 H0 C cl fp pins s I⟩
def mComp2 (vs : List Nat) (mi : Env → Res (List D)) (g : D → Env → Option Env) (ml : Env → Res D) : Env → Res (List D) := fun ρ =>
  mi ρ >>= fun xs => compL2 g ml (wipeE ρ vs) xs >>= fun ds => match decide (ds.length ≤ sizeLine) with
  | true => .ok ds
  | false => .bad
theorem inner_inv {vs1 : List Nat} {mi1 : Env → Res (List D)} {g1 : D → Env → Option Env} {me : Env → Res D} {ρ1 : Env} {cs : List D} (h : nerr (nerr (toE (mComp vs1 mi1 g1 mYes me) ρ1) >>= lstOf) = .ok cs) : ∃ ys, mi1 ρ1 = .ok ys ∧ compL g1 mYes me (wipeE ρ1 vs1) ys = .ok cs := by
  obtain ⟨dl, q, h⟩ := bind_inv (nerr_inv h)
  have q := nerr_inv q
  obtain ⟨ds, q2, q⟩ := bind_inv (show (mComp vs1 mi1 g1 mYes me ρ1 >>= fun xs => Res.ok (D.lst xs)) = .ok dl from q)
  injection q with q
  subst q
  have h : Res.ok ds = .ok cs := h
  injection h with h
  subst h
  obtain ⟨ys, q3, q4⟩ := bind_inv (show (mi1 ρ1 >>= fun xs => match decide (xs.length ≤ sizeLine) with
    | true => compL g1 mYes me (wipeE ρ1 vs1) xs
    | false => .bad) = .ok ds from q2)
  refine ⟨ys, q3, ?_⟩
  by_cases hz : ys.length ≤ sizeLine
  · rw [decide_eq_true hz] at q4; exact q4
  · rw [decide_eq_false hz] at q4; cases q4
theorem comp_core2 {σ : L2.St} {H : Hp} {F : List Addr} {ρ : Env} {Q : VK} {wi : TI}
    (f : ∀ (σ : L2.St) (H : Hp) (F : List Addr) (ρ : Env) (R : It → Hp → Prop), StR (gx X T) Fb H σ ρ F → Out X T σ H (mi ρ) (fun xs => ∀ J H' P, Same H H' → ItOk (gx X T) J xs P → P H' (avo Fb F) → R J H') → wi σ H R)
    (hg : ∀ (s : Shared) (H : Hp) (C : Addr) (cl : List (Str × Addr)) (fp : List Addr) (Fb' : Gh), MG T Fb' (X.blk s H scope (compEnvC scope cl C X.env) fp) tg (own.map (·.2)) g)
    (hi1 : ∀ (s : Shared) (H : Hp) (C : Addr) (cl : List (Str × Addr)) (fp : List Addr) (Fb' : Gh), MI T Fb' (X.blk s H scope (compEnvC scope cl C X.env) fp) tg1 iter1 mi1)
    (hg1 : ∀ (s : Shared) (H : Hp) (C : Addr) (cl : List (Str × Addr)) (fp : List Addr) (Fb' : Gh), MG T Fb' (X.blk s H scope (compEnvC scope cl C X.env) fp) tg1 vs1 g1)
    (he : ∀ (s : Shared) (H : Hp) (C : Addr) (cl : List (Str × Addr)) (fp : List Addr) (Fb' : Gh), ME T Fb' (X.blk s H scope (compEnvC scope cl C X.env) fp) elt me)
    (S : StR (gx X T) Fb H σ ρ F) (o : Out X T σ H (mComp2 (own.map (·.2)) mi g (toE (mComp vs1 mi1 g1 mYes me)) ρ) (fun ds => ∀ p vs H', H p = none → Same H H' → H' p = some (.lst vs) → RepL (gx X T) H' (fun a => a = p ∨ avo Fb F a) ds vs → Q (.ref p) H')) :
    tLc2 wi (blkG X scope tg) (blkT X scope []) (blkI X scope tg1 iter1) (blkG X scope tg1) (blkT X scope []) (blkE X scope elt) (own.map (·.2)) vs1 σ H Q := by
  refine f σ H F ρ _ S (o.bind.imp fun xs _ o1 J H1 P s1 it hp L hL => ?_)
  have S1 := S.same s1
  generalize hw : wipeE ρ (own.map (·.2)) = ρw at o1
  have Sw : StR (gx X T) ⟨fun a => a = L ∨ Fb.fb a, none⟩ (upd H1 L (.lst [])) (L2.wipe σ (own.map (·.2))) ρw F := by rw [← hw]; exact (S1.drop.wipe rfl _).new hL
  cases q : compL2 g (toE (mComp vs1 mi1 g1 mYes me)) ρw xs with
  | err z => exact absurd q compL2_noerr
  | bad => rw [q] at o1; exact False.elim o1
  | ok ds =>
    rw [q] at o1
    have o1 : Out X T σ H (match decide (ds.length ≤ sizeLine) with
      | true => Res.ok ds
      | false => .bad) _ := o1
    have hz : ds.length ≤ sizeLine := by
      by_cases hz : ds.length ≤ sizeLine
      · exact hz
      · rw [decide_eq_false hz] at o1; exact False.elim o1
    rw [decide_eq_true hz] at o1
    have toA : ∀ {d : D} {v : V} {H' : Hp}, Rep (gx X T) H' (avo ⟨fun a => a = L ∨ Fb.fb a, none⟩ F) d v → Rep (gx X T) H' (fun a => a = L ∨ avo Fb F a) d v := fun {d v H'} r => Rep.mono (kept_sub fun a z => by
      rcases z with z | z | z
      · exact .inr (.inl z)
      · exact .inl z
      · exact .inr (.inr z)) d r
    have ofA : ∀ {d : D} {v : V} {H' : Hp}, Rep (gx X T) H' (fun a => a = L ∨ avo Fb F a) d v → Rep (gx X T) H' (avo ⟨fun a => a = L ∨ Fb.fb a, none⟩ F) d v := fun {d v H'} r => Rep.mono (kept_sub fun a z => by
      rcases z with z | z | z
      · exact .inr (.inl z)
      · exact .inl z
      · exact .inr (.inr z)) d r
    have pP : ∀ (H' : Hp) (acc : List V), Same H1 H' → H' L = some (.lst acc) → P H' (fun a => a = L ∨ avo Fb F a) := fun H' acc s e => by
      have sm : Same H1 (fun a => if a = L then none else H' a) := fun a o h => by
        have ne := ne_of_none h hL
        show Lke o (if a = L then none else H' a)
        rw [if_neg ne]
        exact s _ _ h
      have k := it.new (p := L) (o := .lst acc) (it.same hp sm) (if_pos rfl)
      have e2 : upd (fun a => if a = L then none else H' a) L (.lst acc) = H' := by
        funext a
        unfold upd
        by_cases h : a = L
        · rw [if_pos h, h, e]
        · rw [if_neg h]; exact if_neg h
      rw [e2] at k
      exact k
    refine ⟨fun i m H' => m = xs.length - i ∧ i ≤ xs.length ∧ ∃ dn rs acc, ds = dn ++ rs ∧ compL2 g (toE (mComp vs1 mi1 g1 mYes me)) ρw (xs.drop i) = .ok rs ∧ H' L = some (.lst acc) ∧ RepL (gx X T) H' (fun a => a = L ∨ avo Fb F a) dn acc ∧ Same H1 H' ∧
      StR (gx X T) ⟨fun a => a = L ∨ Fb.fb a, none⟩ H' (L2.wipe σ (own.map (·.2))) ρw F, ⟨xs.length, rfl, Nat.zero_le _, [], ds, [], rfl, q, upd_same, rfl, same_upd hL, Sw⟩, ?_⟩
    rintro i m H' ⟨rfl, hi, dn, rs, acc, e1, e2, e3, r3, s3, S3⟩
    have P3 := pP H' acc s3 e3
    have hav : ∀ a, (a = L ∨ avo Fb F a) → H' a ≠ none := fun a z => by
      rcases z with z | z
      · rw [z, e3]; exact fun z => by cases z
      · exact s3.some (S1.av a z)
    by_cases hlt : i < xs.length
    · refine .inr ⟨it.go P3 hlt, fun H'' => ∃ dn rs acc, ds = dn ++ rs ∧ compL2 g (toE (mComp vs1 mi1 g1 mYes me)) ρw (xs.drop (i + 1)) = .ok rs ∧ H'' L = some (.lst acc) ∧ RepL (gx X T) H'' (fun a => a = L ∨ avo Fb F a) dn acc ∧ Same H1 H'' ∧
        StR (gx X T) ⟨fun a => a = L ∨ Fb.fb a, none⟩ H'' (L2.wipe σ (own.map (·.2))) ρw F, fun H'' k => ⟨xs.length - (i + 1), by omega, rfl, hlt, k⟩, fun x H2 y => ?_⟩
      rw [List.drop_eq_getElem_cons hlt] at e2
      obtain ⟨s4, rx⟩ := it.yld P3 hav (List.getElem?_eq_getElem hlt) y
      have e2 : (match g xs[i] ρw with
        | none => (Res.bad : Res (List D))
        | some ρ1 => nerr (nerr (toE (mComp vs1 mi1 g1 mYes me) ρ1) >>= lstOf) >>= fun ds => compL2 g (toE (mComp vs1 mi1 g1 mYes me)) ρw (xs.drop (i + 1)) >>= fun es => .ok (ds ++ es)) = .ok rs := e2
      intro s0 H0 C cl fp
      cases q1 : g xs[i] ρw with
      | none => rw [q1] at e2; cases e2
      | some ρ1 =>
        rw [q1] at e2
        obtain ⟨cs, q2, e2⟩ := bind_inv e2
        obtain ⟨ys, q2, q3⟩ := inner_inv q2
        obtain ⟨rs', q4, e2⟩ := bind_inv e2
        injection e2 with e2
        refine (hg s0 H0 C cl fp _).run _ H2 F ρw ρ1 _ x _ (S3.same s4) (ofA rx) q1 fun σ2 on S4 => ⟨wipe_only on, ?_⟩
        intro s0 H0 C cl fp
        refine (mts_nil : MTs T ⟨fun a => a = L ∨ Fb.fb a, none⟩ (X.blk s0 H0 scope (compEnvC scope cl C X.env) fp) [] mYes).run σ2 H2 F ρ1 _ S4 ?_
        intro H3 s5
        refine iteT ?_
        intro s0 H0 C cl fp
        obtain ⟨wj, hpj, fj⟩ := (hi1 s0 H0 C cl fp ⟨fun a => a = L ∨ Fb.fb a, none⟩).ex
        refine fun pins sh Ii => hpj.run pins sh σ2 H3 _ Ii (fj σ2 H3 F ρ1 _ (S4.same s5) ?_)
        rw [q2]
        intro J1 H4 P1 s6 it1 fz1 hp1
        have s456 := s4.trans (s5.trans s6)
        refine ⟨fun j k H' => k = ys.length - j ∧ j ≤ ys.length ∧ ∃ en ts acc, cs = en ++ ts ∧ compL g1 mYes me (wipeE ρ1 vs1) (ys.drop j) = .ok ts ∧ H' L = some (.lst acc) ∧ RepL (gx X T) H' (fun a => a = L ∨ avo Fb F a) (dn ++ en) acc ∧ Same H1 H' ∧
          P1 H' (avo ⟨fun a => a = L ∨ Fb.fb a, none⟩ F) ∧ StR (gx X T) ⟨fun a => a = L ∨ Fb.fb a, none⟩ H' σ2 ρ1 F ∧ StR (gx X T) ⟨fun a => a = L ∨ Fb.fb a, none⟩ H' (L2.wipe σ (own.map (·.2))) ρw F,
          ⟨ys.length, rfl, Nat.zero_le _, [], cs, acc, rfl, q3, s456 _ _ e3, by rw [List.append_nil]; exact r3.same s456, s3.trans s456, hp1, S4.same (s5.trans s6), S3.same s456⟩, ?_⟩
        rintro j k H5 ⟨rfl, hj, en, ts, acc5, e5, q5, l5, r5, s15, p5, T5, U5⟩
        have hav5 : ∀ a, avo ⟨fun a => a = L ∨ Fb.fb a, none⟩ F a → H5 a ≠ none := fun a z => T5.av a z
        by_cases hjl : j < ys.length
        · refine .inr ⟨it1.go p5 hjl, fun H' => ∃ en ts acc, cs = en ++ ts ∧ compL g1 mYes me (wipeE ρ1 vs1) (ys.drop (j + 1)) = .ok ts ∧ H' L = some (.lst acc) ∧ RepL (gx X T) H' (fun a => a = L ∨ avo Fb F a) (dn ++ en) acc ∧ Same H1 H' ∧
            P1 H' (avo ⟨fun a => a = L ∨ Fb.fb a, none⟩ F) ∧ StR (gx X T) ⟨fun a => a = L ∨ Fb.fb a, none⟩ H' σ2 ρ1 F ∧ StR (gx X T) ⟨fun a => a = L ∨ Fb.fb a, none⟩ H' (L2.wipe σ (own.map (·.2))) ρw F,
            fun H' k => ⟨ys.length - (j + 1), by omega, rfl, hjl, k⟩, fun x1 H6 y1 => ?_⟩
          rw [List.drop_eq_getElem_cons hjl] at q5
          obtain ⟨s7, rx1⟩ := it1.yld p5 hav5 (List.getElem?_eq_getElem hjl) y1
          have q5 : (match g1 ys[j] (wipeE ρ1 vs1) with
            | none => (Res.bad : Res (List D))
            | some ρ2 => nerr (mYes ρ2) >>= fun b => match b with
              | true => nerr (me ρ2) >>= fun d => compL g1 mYes me (wipeE ρ1 vs1) (ys.drop (j + 1)) >>= fun ds => .ok (d :: ds)
              | false => compL g1 mYes me (wipeE ρ1 vs1) (ys.drop (j + 1))) = .ok ts := q5
          intro s0 H0 C cl fp
          cases q6 : g1 ys[j] (wipeE ρ1 vs1) with
          | none => rw [q6] at q5; cases q5
          | some ρ2 =>
            rw [q6] at q5
            have q5 : (nerr (me ρ2) >>= fun d => compL g1 mYes me (wipeE ρ1 vs1) (ys.drop (j + 1)) >>= fun ds => Res.ok (d :: ds)) = .ok ts := q5
            obtain ⟨d, q7, q5⟩ := bind_inv q5
            have q7 := nerr_inv q7
            obtain ⟨ts', q8, q5⟩ := bind_inv q5
            injection q5 with q5
            refine (hg1 s0 H0 C cl fp _).run _ H6 F (wipeE ρ1 vs1) ρ2 _ x1 _ ((T5.same s7).wipe rfl vs1) rx1 q6 fun σ3 on3 S8 => ⟨wipe_only on3, ?_⟩
            intro s0 H0 C cl fp
            refine (mts_nil : MTs T ⟨fun a => a = L ∨ Fb.fb a, none⟩ (X.blk s0 H0 scope (compEnvC scope cl C X.env) fp) [] mYes).run σ3 H6 F ρ2 _ S8 ?_
            intro H7 s8
            refine iteT ?_
            intro s0 H0 C cl fp
            refine (he s0 H0 C cl fp _).run σ3 H7 F ρ2 _ (S8.same s8) ?_
            rw [q7]
            intro y8 H8 s9 r9
            have s789 := s7.trans (s8.trans s9)
            have l8 := s789 _ _ l5
            have kk : Kept H8 (upd H8 L (.lst (acc5 ++ [y8]))) (fun a => a = L ∨ avo Fb F a) (fun a => a = L ∨ avo Fb F a) := ⟨fun a u h n => by rw [upd_ne fun z => n (.inl z)]; exact .of h, fun a z => .inl z⟩
            have kk2 : Kept H8 (upd H8 L (.lst (acc5 ++ [y8]))) (avo ⟨fun a => a = L ∨ Fb.fb a, none⟩ F) (avo ⟨fun a => a = L ∨ Fb.fb a, none⟩ F) := ⟨fun a u h n => by rw [upd_ne fun z => n (.inr (.inl z))]; exact .of h, fun a z => .inl z⟩
            have hn : (acc5.length : Nat) < sizeLine := by
              have h1 := r5.length
              have h2 := congrArg List.length e1
              have h3 := congrArg List.length e2
              have h4 := congrArg List.length e5
              have h5 := congrArg List.length q5
              simp only [List.length_append, List.length_cons] at h1 h2 h3 h4 h5
              omega
            refine ⟨acc5, l8, hn, en ++ [d], ts', acc5 ++ [y8], by rw [e5, ← q5, List.append_assoc]; rfl, q8, upd_same, ?_, ?_, ?_, ?_, ?_⟩
            · rw [← List.append_assoc]
              exact RepL.mono kk _ ((r5.same s789).append (RepL.cons (toA r9) (RepL.nil_iff.mpr rfl)))
            · exact fun a u h => by
                have nL : a ≠ L := ne_of_none h hL
                rw [upd_ne nL]
                exact (s15.trans s789) a u h
            · exact fz1 (it1.same p5 s789) kk2
            · exact (T5.same s789).chg (H' := H8) (.inl rfl) l8 (fun ps z => by cases z)
            · exact (U5.same s789).chg (H' := H8) (.inl rfl) l8 (fun ps z => by cases z)
        · have e : j = ys.length := by omega
          subst e
          rw [List.drop_length] at q5
          have q5 : Res.ok ([] : List D) = .ok ts := q5
          injection q5 with q5
          subst q5
          rw [List.append_nil] at e5
          subst e5
          exact .inl ⟨it1.stop p5 (Nat.le_refl _), dn ++ cs, rs', acc5, by rw [e1, ← e2, List.append_assoc], q4, l5, r5, s15, U5⟩
    · have e : i = xs.length := by omega
      subst e
      rw [List.drop_length] at e2
      have e2 : Res.ok ([] : List D) = .ok rs := e2
      injection e2 with e2
      subst e2
      rw [List.append_nil] at e1
      refine .inl ⟨it.stop P3 (Nat.le_refl _), ?_⟩
      have o1 : ∀ p vs H', H p = none → Same H H' → H' p = some (.lst vs) → RepL (gx X T) H' (fun a => a = p ∨ avo Fb F a) ds vs → Q (.ref p) H' := o1
      refine o1 L acc H' (s1.free hL) (s1.trans s3) e3 ?_
      rw [e1]
      exact r3
theorem mf_comp2 (hc : X.calm = true) (hN : X.N.Nodup) (hi : MIb T Fb X tg iter mi) (ok : BlkOk X.N X.env.scope scope own) (hv : ∀ i ∈ vs1, i ∈ own.map (·.2))
    (hg : ∀ (s : Shared) (H : Hp) (C : Addr) (cl : List (Str × Addr)) (fp : List Addr) (Fb' : Gh), MG T Fb' (X.blk s H scope (compEnvC scope cl C X.env) fp) tg (own.map (·.2)) g)
    (hi1 : ∀ (s : Shared) (H : Hp) (C : Addr) (cl : List (Str × Addr)) (fp : List Addr) (Fb' : Gh), MI T Fb' (X.blk s H scope (compEnvC scope cl C X.env) fp) tg1 iter1 mi1)
    (hg1 : ∀ (s : Shared) (H : Hp) (C : Addr) (cl : List (Str × Addr)) (fp : List Addr) (Fb' : Gh), MG T Fb' (X.blk s H scope (compEnvC scope cl C X.env) fp) tg1 vs1 g1)
    (he : ∀ (s : Shared) (H : Hp) (C : Addr) (cl : List (Str × Addr)) (fp : List Addr) (Fb' : Gh), ME T Fb' (X.blk s H scope (compEnvC scope cl C X.env) fp) elt me)
    (hs : ∀ x, foldedSetIterable iter X.env x = pure x := by intro _; rfl) (hs1 : ∀ env x, foldedSetIterable iter1 env x = pure x := by intro _ _; rfl) :
    MF T Fb X (.ListComp elt [⟨tg, iter, [], 0⟩, ⟨tg1, iter1, [], 0⟩] scope pos) (mComp2 (own.map (·.2)) mi g (toE (mComp vs1 mi1 g1 mYes me))) := by
  obtain ⟨wi, hpi, f⟩ := hi.ex
  refine ⟨fun σ H F ρ Q S o => (pe_lc2 hc hN hpi ok hv pg_blk pts_blk pi_blk pg_blk pts_blk pe_blk hs hs1).tw ?_⟩
  exact comp_core2 f hg hi1 hg1 he S o
/-- y = [..] -/
theorem ms_setComp2 (i : Nat) {y : Str} {py spos : Pos} (own' : Bool) (hc : X.calm = true) (hN : X.N.Nodup) (hi : MIb T Fb X tg iter mi) (ok : BlkOk X.N X.env.scope scope own) (hv : ∀ i ∈ vs1, i ∈ own.map (·.2))
    (hg : ∀ (s : Shared) (H : Hp) (C : Addr) (cl : List (Str × Addr)) (fp : List Addr) (Fb' : Gh), MG T Fb' (X.blk s H scope (compEnvC scope cl C X.env) fp) tg (own.map (·.2)) g)
    (hi1 : ∀ (s : Shared) (H : Hp) (C : Addr) (cl : List (Str × Addr)) (fp : List Addr) (Fb' : Gh), MI T Fb' (X.blk s H scope (compEnvC scope cl C X.env) fp) tg1 iter1 mi1)
    (hg1 : ∀ (s : Shared) (H : Hp) (C : Addr) (cl : List (Str × Addr)) (fp : List Addr) (Fb' : Gh), MG T Fb' (X.blk s H scope (compEnvC scope cl C X.env) fp) tg1 vs1 g1)
    (he : ∀ (s : Shared) (H : Hp) (C : Addr) (cl : List (Str × Addr)) (fp : List Addr) (Fb' : Gh), ME T Fb' (X.blk s H scope (compEnvC scope cl C X.env) fp) elt me)
    (hy : X.N[i]? = some y := by rfl) (hyl : X.env.scope.names.lookup y = some .local := by rfl) (hsw : swapsWith (.ListComp elt [⟨tg, iter, [], 0⟩, ⟨tg1, iter1, [], 0⟩] scope pos) (some (.Name y py)) spos.line X.env = pure true := by exact sw_true rfl rfl rfl (by decide +kernel))
    (hs : ∀ x, foldedSetIterable iter X.env x = pure x := by intro _; rfl) (hs1 : ∀ env x, foldedSetIterable iter1 env x = pure x := by intro _ _; rfl) : MS T Fb X (.Assign [.Name y py] (.ListComp elt [⟨tg, iter, [], 0⟩, ⟨tg1, iter1, [], 0⟩] scope pos) spos)
      (match own' with
        | true => mSetO i (mComp2 (own.map (·.2)) mi g (toE (mComp vs1 mi1 g1 mYes me)))
        | false => mSet i (toE (mComp2 (own.map (·.2)) mi g (toE (mComp vs1 mi1 g1 mYes me))))) := by
  obtain ⟨wi, hpi, f⟩ := hi.ex
  refine ⟨fun σ H F ρ De S o => (ps_setLc2 hc hN hy hyl hsw hpi ok hv pg_blk pts_blk pi_blk pg_blk pts_blk pe_blk hs hs1).tw ?_⟩
  refine comp_core2 (own := own) f hg hi1 hg1 he S ?_
  cases own' with
  | true =>
    refine (OutS.toOut S o).imp fun ds _ o1 p vs H1 np s hp r => ?_
    obtain ⟨hl, o2⟩ := o1.put
    obtain ⟨q, S'⟩ := S.setO hl s np hp r
    exact o2 _ _ _ q S'
  | false =>
    refine (OutS.toOut S o).bind.imp fun ds _ o1 p vs H1 np s hp r => ?_
    obtain ⟨hl, o2⟩ := OutS.put (show OutS X T Fb De H F (put i (.v (.d (.lst ds))) ρ) from o1)
    exact o2 _ _ F (Post.of_same s) ((S.same s).setD hl ⟨p, vs, rfl, ⟨hp, fun z => absurd np (S.av p z)⟩, RepL.mono kept_less ds r⟩)
end
/-! ### in: nested data -/
def inDB : D → D → Res Bool
  | x, .lst ys => match toPy x, toPys ys with
    | some p, some ps => if SeqAt.shaped p && SeqAt.shaped (.list ps) then .ok (ps.any fun z => PyData.eqv z p) else .bad
    | _, _ => .bad
  | _, _ => .bad
def inDD : D → D → Res D := fun x y => inDB x y >>= fun k => .ok (.bl k)
def ninDD : D → D → Res D := fun x y => inDB x y >>= fun k => .ok (.bl (!k))
section
variable {T : CT} {X : Cx}
theorem inD_core {σ : L2.St} {H : Hp} {Av : Addr → Prop} {dx dy : D} {x y : V} {P : Bool → Prop} (rx : RepB (gx X T) H Av dx x) (ry : RepB (gx X T) H Av dy y) (o : Out X T σ H (inDB dx dy) P) :
    ∃ d ds, Dp X.K H x d ∧ Dp X.K H y (.list ds) ∧ SeqAt.shaped d = true ∧ SeqAt.shaped (.list ds) = true ∧ P (ds.any fun z => PyData.eqv z d) := by
  cases dy with
  | lst ys =>
    have o : Out X T σ H (match toPy dx, toPys ys with
      | some p, some ps => if SeqAt.shaped p && SeqAt.shaped (.list ps) then Res.ok (ps.any fun z => PyData.eqv z p) else .bad
      | _, _ => .bad) P := by cases dx <;> exact o
    cases q1 : toPy dx with
    | none => rw [q1] at o; exact False.elim o
    | some p =>
      cases q2 : toPys ys with
      | none => rw [q1, q2] at o; exact False.elim o
      | some ps =>
        rw [q1, q2] at o
        have o : Out X T σ H (if (SeqAt.shaped p && SeqAt.shaped (.list ps)) = true then .ok (ps.any fun z => PyData.eqv z p) else .bad) P := o
        obtain ⟨hc, f⟩ := o.if
        rw [Bool.and_eq_true] at hc
        exact ⟨p, ps, toPy_dp (G := gx X T) dx rx q1, toPy_dp (G := gx X T) (.lst ys) ry (by rw [toPy, q2]), hc.1, hc.2, f⟩
  | _ => cases dx <;> exact False.elim o
theorem om_indd (hu : X.A.units + 65 < cLine) : OpM T X (compareOp .In) inDD := by
  refine ⟨_, op_inD hu, fun σ H Av dx dy x y Q hav rx ry o => ?_⟩
  obtain ⟨d, e, h1, h2, h3, h4, h5⟩ := inD_core rx ry o.bind
  exact ⟨d, e, h1, h2, h3, h4, h5 _ _ (Same.refl H) rfl⟩
theorem om_notindd (hu : X.A.units + 65 < cLine) : OpM T X (compareOp .NotIn) ninDD := by
  refine ⟨_, op_notInD hu, fun σ H Av dx dy x y Q hav rx ry o => ?_⟩
  obtain ⟨d, e, h1, h2, h3, h4, h5⟩ := inD_core rx ry o.bind
  exact ⟨d, e, h1, h2, h3, h4, h5 _ _ (Same.refl H) rfl⟩
theorem units65 {k : Nat} {A : Around} (r : Room k A) : A.units + 65 < cLine := by have := r.un; omega
end
end Cr
/-! Core, part 27: enumerate of a tuple; x[j] += e; [..] * n. -/
namespace Cr
open PySem PySem.Spec PyProof.Rows L2
open AutoSeq1 (wpAny_loadPart')
theorem meets_enumerate_newT (l : Addr) (items : Array Value) (n : Nat) (dct : Option Addr) (sl : Array (Option Value)) :
    Meets (Builtin.«enumerate.__new__» ⟨[.type "enumerate", .ref l], []⟩) (fun _ R s => s.heap.get? l = some { cls := .type "tuple", dict := dct, data := .seq items n, slots := sl } ∧
      R (.ok (.ret (.ref (s.heap.push { cls := .type "tuple_iterator", data := .fields #[.ref l, .int 0 0] }).objs.size)))
        { s with heap := (s.heap.push { cls := .type "tuple_iterator", data := .fields #[.ref l, .int 0 0] }).push { cls := .type "enumerate", data := .fields #[.none, .bool false, .ref s.heap.objs.size, rawInt 0, .none, .none] } }) :=
  .of_wp fun prog w A R s h => by
    obtain ⟨hp, g, d, tk, os⟩ := s; obtain ⟨hl, h⟩ := h
    have hsub := sub_enumerate
    have hL : Heap.IsTuple (Shared.heap ⟨hp, g, d, tk, os⟩) l items := ⟨_, hl, rfl, n, rfl⟩
    wp_walk using wpAny_loadPart' hl
    refine wpAny_stack_any fun st => wpAny_pure ?_
    split
    · rename_i c _ _ _ _ _
      cases (c == Value.type "enumerate")
      · wp_walk using wpAny_loadPart' hl, wpAny_pyIter_tuple hL
        exact ⟨_, rfl, h⟩
      · wp_walk using wpAny_loadPart' hl, wpAny_pyIter_tuple hL
        exact ⟨_, rfl, h⟩
    · wp_walk using wpAny_loadPart' hl, wpAny_pyIter_tuple hL
      exact ⟨_, rfl, h⟩
section
variable {prog : Program} {w : World} {A : Around} {E : Value → Shared → Prop} {s : Shared}
theorem call_enumerate_tuple {l : Addr} {items : Array Value} {Q : Value → Shared → Prop} (hL : s.heap.IsTuple l items)
    (h : ∀ h', IsEnum h' (s.heap.objs.size + 1) s.heap.objs.size 0 .none → h'.IsTupleIter s.heap.objs.size l 0 → h'.objs.size = s.heap.objs.size + 2 →
      (∀ b o, s.heap.get? b = some o → h'.get? b = some o) → Q (.ref (s.heap.objs.size + 1)) { s with heap := h' }) :
    wpAny (model prog w) A (call (.type "enumerate") [.ref l]) Q E s := by
  obtain ⟨⟨c, dct, dt, sl⟩, hl, hc, n, hd⟩ := hL
  replace hc : c = .type "tuple" := hc
  replace hd : dt = .seq items n := hd
  subst hc hd
  refine callType_new F.called_enumerate (by decide) (F.typeCall_enumerate_1 _) (F.newCall_enumerate_1 _) (fun obj => F.args_object_init_2 obj _) F.entry_enumerate_new
    (meets_enumerate_newT l items n dct sl) ⟨hl, ?_⟩
  have hz : (s.heap.push { cls := .type "tuple_iterator", data := .fields #[.ref l, .int 0 0] }).objs.size = s.heap.objs.size + 1 := Heap.size_push ..
  show _ ∧ _
  rw [hz]
  have he : IsEnum ((s.heap.push { cls := .type "tuple_iterator", data := .fields #[.ref l, .int 0 0] }).push
      { cls := .type "enumerate", data := .fields #[.none, .bool false, .ref s.heap.objs.size, rawInt 0, .none, .none] }) (s.heap.objs.size + 1) s.heap.objs.size 0 .none := by
    have := Heap.get?_push_size (s.heap.push { cls := .type "tuple_iterator", data := .fields #[.ref l, .int 0 0] })
      (o := { cls := .type "enumerate", data := .fields #[.none, .bool false, .ref s.heap.objs.size, rawInt 0, .none, .none] }) rfl
    rw [hz] at this; exact this
  refine ⟨⟨_, he, rfl⟩, h _ he ⟨_, Heap.get?_push_of_some _ (Heap.get?_push_size _ rfl), rfl, rfl⟩ (by rw [Heap.size_push, hz]) fun b o x => Heap.get?_push_of_some _ (Heap.get?_push_of_some _ x)⟩
/-- the iterator of a tuple, drawn by nextOf -/
theorem draws_tuple {it l : Addr} {items : Array Value} (hh : A.handled = none) (hne : l ≠ it) : Draws prog w A it [it, l] items.size (fun i x => items[i]? = some x) (fun i h => h.IsTupleIter it l i ∧ h.IsTuple l items) where
  live := fun i h st => let ⟨o, ho, _⟩ := st.1; ⟨o, ho⟩
  frame := fun i h h' st k => ⟨let ⟨o, ho, r⟩ := st.1; ⟨o, k it (by simp) o ho, r⟩, let ⟨o, ho, r⟩ := st.2; ⟨o, k l (by simp) o ho, r⟩⟩
  item := fun i s Q E hi st hQ => by
    refine RZ.nextOf_tuple_item st.1 st.2 (x := items[i]) (by simp [hi]) fun h' st' sb => ?_
    exact hQ items[i] h' s.toks (by simp [hi]) ⟨st', let ⟨o, ho, r⟩ := st.2; ⟨o, (sb.2 l hne).trans ho, r⟩⟩ sb
  done := fun s Q E st hE => RZ.nextOf_tuple_end hh st.1 st.2 (by simp) hE
theorem pyNext_enumT_item {e it l : Addr} {i : Nat} {items : Array Value} {x old : Value} {Q : Option Value → Shared → Prop} (hh : A.handled = none)
    (he : IsEnum s.heap e it i old) (hit : s.heap.IsTupleIter it l i) (hl : s.heap.IsTuple l items) (hx : items[i]? = some x) (hne : e ≠ it) (hel : e ≠ l) (hli : l ≠ it)
    (hQ : ∀ h' tk, IsEnumOut h' e it ((i : Int) + 1) x s.heap.objs.size → h'.IsTupleIter it l (i + 1) →
      h'.get? s.heap.objs.size = some { cls := .type "tuple", data := .seq #[.int i tk, x] } → h'.objs.size = s.heap.objs.size + 1 →
      (∀ b o, b ≠ e → b ≠ it → s.heap.get? b = some o → h'.get? b = some o) → Q (some (.ref s.heap.objs.size)) { s with heap := h', toks := tk + 1 }) :
    wpAny (model prog w) A (pyNext (.ref e)) Q E s := by
  have hT : s.TypeIs (.ref e) "enumerate" := ⟨_, he, rfl⟩
  unfold pyNext
  refine wpAny_bind (wpAny_attempt (wpAny_callSpecial?_slot (name := Str.ofString "__next__") hT F.slot_enumerate_next
    (wpAny_call_entry F.slot_enumerate_next hT F.entry_enumerate_next
      (enumerate_next_itemD (draws_tuple hh hli) he ⟨hit, hl⟩ (Array.getElem?_eq_some_iff.mp hx).1 hne (by simp [hne, hel]) fun y h' tk hy a b c d k => ?_) (F.args_enumerate_next_1 _))))
  rw [hx] at hy
  cases hy
  exact wpAny_pure (hQ h' tk a b.1 c d k)
theorem pyNext_enumT_end {e it l : Addr} {i : Nat} {items : Array Value} {old : Value} {Q : Option Value → Shared → Prop} (hh : A.handled = none)
    (he : IsEnum s.heap e it i old) (hit : s.heap.IsTupleIter it l i) (hl : s.heap.IsTuple l items) (hx : items[i]? = none)
    (hQ : ∀ h', Heap.ExtBut it s.heap h' → Q none { s with heap := h' }) : wpAny (model prog w) A (pyNext (.ref e)) Q E s := by
  have hT : s.TypeIs (.ref e) "enumerate" := ⟨_, he, rfl⟩
  unfold pyNext
  refine wpAny_bind (wpAny_attempt (wpAny_callSpecial?_slot (name := Str.ofString "__next__") hT F.slot_enumerate_next
    (wpAny_call_entry F.slot_enumerate_next hT F.entry_enumerate_next ?_ (F.args_enumerate_next_1 _))))
  show wpAny _ _ (field (.ref e) 2 >>= _) _ _ _
  refine wpAny_bind (wpAny_field he rfl (x := .ref it) rfl ?_)
  refine wpAny_bind (RZ.nextOf_tuple_end hh hit hl hx fun h' x he' hx' => ?_)
  obtain ⟨o, ho, hc⟩ := hx'
  refine wpAny_bind (wpAny_isInstance (T := "StopIteration") (b := true) ⟨o, ho, hc⟩ isSubtype_stop ?_)
  exact wpAny_pure (hQ _ he')
end
/-- the tuple at a, each item in a new pair -/
def IteT (K : PySem.W.Frag) (a : Addr) : It :=
  ⟨fun i H => ∃ (xs : List V) (x : V), SqT K H a xs ∧ xs[i]? = some x, fun i H v H' => ∃ T x, v = .ref T ∧ H T = none ∧ H' = upd H T (.tup [.int (i : Nat), x]) ∧ ∀ xs, SqT K H a xs → xs[i]? = some x, fun i H => ∃ xs : List V, SqT K H a xs ∧ xs.length ≤ i⟩
theorem turn_enumT {P : Program} {w : World} {K : PySem.W.Frag} {elts : List Expr} {kk : Nat} {tpos : Pos} (a e it : Addr) (hea : e ≠ a) (hai : a ≠ it) :
    Turn P w K (.Tuple elts kk tpos) (IteT K a) [e, it] e (fun i h => (∃ old, IsEnum h e it ((i : Nat) : Int) old) ∧ h.IsTupleIter it a i ∧ e ≠ it) where
  mem := by simp
  obj := fun i h st b hb => by
    obtain ⟨⟨old, he⟩, ⟨o, ho, hc, hd⟩, _⟩ := st
    have e' : b = e ∨ b = it := by simpa using hb
    rcases e' with z | z
    · rw [z]; exact ⟨_, he, fun v q => nomatch q⟩
    · rw [z]; exact ⟨o, ho, fun v q => by rw [hd] at q; cases q⟩
  keep := fun i h h' st k => let ⟨⟨old, he⟩, hi, hne⟩ := st; ⟨⟨old, k e (by simp) _ he⟩, let ⟨o, ho, r⟩ := hi; ⟨o, k it (by simp) o ho, r⟩, hne⟩
  item := by
    intro X hP hw hK hc i pins s σ H E I hf st hg
    subst hP hw hK
    obtain ⟨⟨old, he⟩, hit, hne⟩ := st
    obtain ⟨xs, x, hq, hx⟩ := hg
    obtain ⟨its, rv, p, hz⟩ := I.tuple hq
    obtain ⟨u, hu, ru⟩ := rv.get hx
    have hel : e < s.heap.objs.size := Heap.lt_size he
    have hil : it < s.heap.objs.size := by obtain ⟨_, q, _⟩ := hit; exact Heap.lt_size q
    refine pyNext_enumT_item (I.ok.hd hc) he hit (show s.heap.IsTuple a its.toArray from p) (x := u) (by simpa using hu) hne hea hai fun h' tk ho hit' hT hsz hk => ?_
    refine ⟨_, rfl, wpAny_letOwnedTupleGo_enum (s := { s with heap := h', toks := tk + 1 }) ho fun h'' he' sb => ?_⟩
    have hT2 : h''.get? s.heap.objs.size = some { cls := .type "tuple", data := .seq #[.int i tk, u] } := (sb.2 _ (Nat.ne_of_gt hel)).trans hT
    have new : ObjOk X.prog X.w (upd H s.heap.objs.size (.tup [.int (i : Nat), x])) h'' s.heap.objs.size (.tup [.int (i : Nat), x]) :=
      ⟨by show 2 ≤ sizeLine; decide, [.int i tk, u], .cons ⟨_, rfl⟩ (.cons ru .nil), ⟨_, hT2, rfl, _, rfl⟩⟩
    have I1 : Inv X pins σ (upd H s.heap.objs.size (.tup [.int (i : Nat), x])) { s with heap := h'', toks := tk + 1 } :=
      I.turnedNew (ch := [e, it]) (fun b ob hb q => (sb.2 b (fun z => hb (by simp [z]))).trans (hk b ob (fun z => hb (by simp [z])) (fun z => hb (by simp [z])) q)) hf (Nat.le_refl _) new
    refine ⟨.ref s.heap.objs.size, _, I1, rfl, ⟨_, x, rfl, I.hok.fresh (Nat.le_refl _), rfl, fun ys hy => by rw [I.tuple_inj hy hq]; exact hx⟩, ⟨⟨u, ?_⟩, (let ⟨o, hoo, r⟩ := hit'; ⟨o, (sb.2 it (Ne.symm hne)).trans hoo, r⟩), hne⟩, fun b hb => ?_⟩
    · have e1 : ((i + 1 : Nat) : Int) = (i : Int) + 1 := by omega
      rw [e1]; exact he'
    · have hb' : b < s.heap.objs.size := by
        have e' : b = e ∨ b = it := by simpa using hb
        rcases e' with z | z
        · rw [z]; exact hel
        · rw [z]; exact hil
      rw [upd_ne (Nat.ne_of_lt hb')]
      exact (hf b hb).1
  done := by
    intro X hP hw hK hc i pins s σ H E I hf st hg
    subst hP hw hK
    obtain ⟨⟨old, he⟩, hit, hne⟩ := st
    obtain ⟨xs, hq, hx⟩ := hg
    obtain ⟨its, rv, p, hz⟩ := I.tuple hq
    obtain ⟨f0, f1, f2, f3, f4, f5⟩ := hf it (by simp)
    have hl := rv.length
    exact pyNext_enumT_end (I.ok.hd hc) he hit (show s.heap.IsTuple a its.toArray from p) (by simp; omega) fun h' eb => ⟨rfl, I.turned (t' := s.toks) (fun b o hb q => eb b o hb q) f0 f1 f3 f4 f5⟩
  self := fun A i s Q E st h => let ⟨⟨_, he⟩, _⟩ := st; wpAny_pyIter_enum he h
def iEnumT (K : PySem.W.Frag) (ta : TA) : TI := fun σ H R => ta σ H fun vs H1 => ∃ a xs, vs = [.ref a] ∧ SqT K H1 a xs ∧ R (IteT K a) H1
theorem pi_enumT {X : Cx} {e : Expr} {ta : TA} {p pos tpos : Pos} {elts : List Expr} {kk : Nat} (hg : Gl X "enumerate") (hm : X.mg "enumerate" = none) (ha : PA X [e] ta) (hs : starEach [e] X.env = [(false, eval e X.env)] := by rfl) :
    PI X (.Tuple elts kk tpos) (.Call (.Name "enumerate" p) [e] [] pos) (iEnumT X.K ta) := by
  refine ⟨fun pins s σ H R I h => ?_⟩
  refine Call_ (ld_blt I hg hm boot_enumerate (PyProof.Rows.callWith_type1 (thn (ha.run pos pins s σ H _ I h) fun us s1 ⟨vs, H1, I1, r1, q1⟩ => ?_) hs rfl))
  obtain ⟨a, xs, ex, hq, q⟩ := q1
  subst ex
  cases r1 with
  | cons r rr =>
    cases rr
    cases r
    obtain ⟨its, rv, p', hz⟩ := I1.tuple hq
    have hal : a < s1.heap.objs.size := by obtain ⟨o, ho, _⟩ := p'; exact Heap.lt_size ho
    refine call_enumerate_tuple (show s1.heap.IsTuple a its.toArray from p') fun h' he hit hsz hk => wpAny_pyIter_enum he ?_
    have I2 : Inv X pins σ H1 { s1 with heap := h' } := I1.kept (t' := s1.toks) hk
    refine ⟨s1.heap.objs.size + 1, [s1.heap.objs.size + 1, s1.heap.objs.size], _, _, H1, rfl, I2, turn_enumT a (s1.heap.objs.size + 1) s1.heap.objs.size (Nat.ne_of_gt (Nat.lt_succ_of_lt hal)) (Nat.ne_of_lt hal), ⟨⟨.none, he⟩, hit, Nat.succ_ne_self _⟩, fun b hb => ?_, q⟩
    have e' : b = s1.heap.objs.size + 1 ∨ b = s1.heap.objs.size := by simpa using hb
    have hle : s1.heap.objs.size ≤ b := by
      rcases e' with z | z
      · rw [z]; exact Nat.le_add_right _ _
      · rw [z]; exact Nat.le_refl _
    exact I1.fpOk hle (I1.hok.fresh hle)
/-! ### by mirrors -/
def enumD (xs : List D) : List D := (List.range xs.length).map fun (i : Nat) => D.tup [.int (i : Nat), xs.getD i .non]
def enumT : List D → Res (List D)
  | [.tup xs] => .ok (enumD xs)
  | _ => .bad
theorem it_enumT {G : Gx} {a : Addr} {xs : List D} : ItOk G (IteT G.K a) (enumD xs) (fun H Av => ∃ vs, ((H a = some (.tup vs) ∧ ¬ Av a) ∨ KTup G.K a vs) ∧ RepL G H Av xs vs) where
  same := fun ⟨vs, h1, h2⟩ s => ⟨vs, h1.elim (fun q => .inl ⟨s _ _ q.1, q.2⟩) .inr, h2.same s⟩
  new := fun ⟨vs, h1, h2⟩ hp => ⟨vs, h1.elim (fun q => .inl ⟨by rw [upd_ne (ne_of_none q.1 hp)]; exact q.1, fun z => z.elim (ne_of_none q.1 hp) q.2⟩) .inr, h2.new hp⟩
  go := fun {H Av i} ⟨vs, h1, h2⟩ hi => by
    unfold enumD at hi
    rw [List.length_map, List.length_range] at hi
    exact ⟨vs, vs[i]'(by rw [h2.length]; exact hi), tup_sq h1, by simp⟩
  stop := fun ⟨vs, h1, h2⟩ hi => by
    unfold enumD at hi
    rw [List.length_map, List.length_range] at hi
    exact ⟨vs, tup_sq h1, by rw [h2.length]; exact hi⟩
  yld := fun {H Av i x H' d} ⟨vs, h1, h2⟩ hav e y => by
    obtain ⟨T, z, rfl, hT, e1, y⟩ := y
    unfold enumD at e
    have hi : i < xs.length := by
      have := (List.getElem?_eq_some_iff.mp e).1
      rw [List.length_map, List.length_range] at this; exact this
    rw [List.getElem?_map, List.getElem?_range hi] at e
    have e : D.tup [.int (i : Nat), xs.getD i .non] = d := Option.some.inj e
    obtain ⟨v, e2, r⟩ := h2.get (List.getElem?_eq_getElem hi)
    have e3 := y vs (tup_sq h1)
    rw [e2] at e3
    cases e3
    have s := same_upd (o := .tup [.int (i : Nat), z]) hT
    rw [e1, ← e]
    refine ⟨s, T, _, rfl, .inl ⟨upd_same, fun z => hav T z hT⟩, ?_⟩
    have eg : xs.getD i .non = xs[i] := by rw [List.getD_eq_getElem?_getD, List.getElem?_eq_getElem hi]; rfl
    rw [eg]
    exact RepL.cons (show Rep G _ Av (.int (i : Nat)) (.int (i : Nat)) from rfl) (RepL.cons (r.same s) (RepL.nil_iff.mpr rfl))
section
variable {T : CT} {Fb : Gh} {X : Cx} {e a b : Expr} {me ma mb : Env → Res D} {pos p tpos : Pos} {elts : List Expr} {kk : Nat} {x : Str}
theorem mi_enumT {ms : Env → Res (List D)} (hm : X.mg "enumerate" = none) (ha : ML T Fb X [a] ms) (hg : Gl X "enumerate" := by rfl) (hs : starEach [a] X.env = [(false, eval a X.env)] := by rfl) :
    MI T Fb X (.Tuple elts kk tpos) (.Call (.Name "enumerate" p) [a] [] pos) (mArg enumT ms) := by
  refine ⟨_, pi_enumT hg hm pa_tw hs, fun σ H F ρ R S o => ?_⟩
  refine ha.run σ H F ρ _ S (o.bind.imp fun ds _ o1 ws H1 s r => ?_)
  match ds, o1 with
  | [.tup xs], o1 =>
    obtain ⟨v, vr, rfl, ⟨p1, us, rfl, h1, r1⟩, r3⟩ := r
    have r3 : vr = [] := r3
    subst r3
    refine ⟨p1, us, rfl, tup_sq h1, o1 _ H1 (fun H Av => ∃ vs, ((H p1 = some (.tup vs) ∧ ¬ Av p1) ∨ KTup X.K p1 vs) ∧ RepL (gx X T) H Av xs vs) s it_enumT ?_ ⟨us, h1, r1⟩⟩
    exact fun {H H' Av Av'} q k => by
      obtain ⟨vs, h1, h2⟩ := q
      exact ⟨vs, h1.elim (fun z => .inl ⟨k.keep _ _ z.1 z.2, k.no z.1 z.2⟩) .inr, RepL.mono k _ h2⟩
/-! ### x[j] += e -/
def rGetL : V → V → Hp → VK → Prop := fun o i H Q => ∃ p xs k x, o = .ref p ∧ i = .int k ∧ H p = some (.lst xs) ∧ 0 ≤ k ∧ xs[k.toNat]? = some x ∧ Q x H
theorem get_listI : PGet X rGetL := by
  intro pins s σ H o i ov iv Q I ro ri h
  obtain ⟨p, xs, k, x, rfl, rfl, hp, h0, hx, q⟩ := h
  cases ro
  obtain ⟨t, rfl⟩ := ri
  obtain ⟨its, rv, pl, hz⟩ := I.list (SqL.of hp)
  obtain ⟨u, hu, ru⟩ := rv.get hx
  have hl := (List.getElem?_eq_some_iff.mp hu).1
  have h16 := sizeLine_eq
  have hv := rv.length
  exact wpAny_getItem_list pl.isList h0 (by omega) (by simpa using hu) ⟨x, H, I, ru, q⟩
def getI : List D → D → Res D
  | xs, .int k => if 0 ≤ k then (match xs[k.toNat]? with
    | some d => .ok d
    | none => .bad) else .bad
  | _, _ => .bad
def addI : D → D → Res D
  | .int a, .int b => .ok (.int (a + b))
  | _, _ => .bad
def mAugIx (i : Nat) (mj me : Env → Res D) : Env → Flow := fun ρ => match ρ[i]? with
  | some (.v (.ol xs)) => bindF (mj ρ) ρ fun j => bindF (getI xs j) ρ fun d => bindF (me ρ) ρ fun e => bindF (addI d e) ρ fun z => bindF (setG xs j z) ρ fun ys => .nx (ρ.set i (.v (.ol ys)))
  | _ => .bad
theorem ms_augIx (i : Nat) {p2 p3 : Pos} {mj : Env → Res D} (he : ME T Fb X e me) (hj : MB T Fb X b mj) (hN : X.N[i]? = some x := by rfl) (hv : Vis X.env.scope x := by first | exact Or.inl rfl | exact Or.inr (Or.inl rfl) | exact Or.inr (Or.inr rfl))
    (hd : (x == ("__debug__" : Str)) = false := by decide) (hcd : (x == ("__classdict__" : Str)) = false := by decide)
    (ha : ∀ ov iv new, augStore b ov iv new = (do holding [new, ov, iv] (setItem ov iv new); release [new, ov, iv] []; pure .next) := by intros; rfl) :
    MS T Fb X (.AugAssign (.Subscript (.Name x p2) b p3) .Add e pos) (mAugIx i mj me) := by
  refine ⟨fun σ H F ρ De S o => (ps_augS (pe_var hN hv hd hcd) pe_tw get_listI pe_tw ip_add set_list ha).tw ?_⟩
  unfold mAugIx at o
  split at o
  · rename_i xs e
    obtain ⟨a, vs, e1, h1, h2, _, _⟩ := S.chgO e
    refine ⟨_, e1, ?_⟩
    refine hj.run σ H F ρ _ S ((OutS.toOut S o).imp fun j _ o2 u H2 s2 r2 => ?_)
    have S2 := S.same s2
    obtain ⟨a', vs', e1', h1', h2', _, _⟩ := S2.chgO e
    rw [e1] at e1'
    cases e1'
    have o3 := OutS.toOut S2 (o2.same s2)
    cases j with
    | int kk =>
      have r2 : u = V.int kk := r2
      have o3 : Out X T σ H2 (if 0 ≤ kk then (match xs[kk.toNat]? with
        | some d => Res.ok d
        | none => .bad) else .bad) _ := o3
      obtain ⟨h0, o3⟩ : 0 ≤ kk ∧ Out X T σ H2 (match xs[kk.toNat]? with
        | some d => Res.ok d
        | none => .bad) _ := by
        by_cases h0 : 0 ≤ kk
        · rw [if_pos h0] at o3; exact ⟨h0, o3⟩
        · rw [if_neg h0] at o3; exact False.elim o3
      cases q : xs[kk.toNat]? with
      | none => rw [q] at o3; exact False.elim o3
      | some d =>
        rw [q] at o3
        obtain ⟨w, hw, rw'⟩ := h2'.get q
        refine ⟨a, vs', kk, w, rfl, r2, h1', h0, hw, ?_⟩
        refine he.run σ H2 F ρ _ S2 ((OutS.toOut S2 o3).imp fun y _ o4 v H3 s3 r3 => ?_)
        have S3 := S2.same s3
        obtain ⟨a3, vs3, e13, h13, h23, _, k⟩ := S3.chgO e
        rw [e1] at e13
        cases e13
        have o5 := OutS.toOut S3 (o4.same s3)
        cases d with
        | int m =>
          cases y with
          | int n =>
            have o6 := OutS.toOut S3 (show OutS X T Fb De H3 F (bindF (setG xs (.int kk) (.int (m + n))) ρ fun ys => .nx (ρ.set i (.v (.ol ys)))) from o5)
            have hw' : w = V.int m := rw'
            have r3 : v = V.int n := r3
            refine ⟨m, n, hw', r3, ?_⟩
            have o6 : Out X T σ H3 (match ixN xs.length kk with
              | some j => Res.ok (xs.set j (.int (m + n)))
              | none => .bad) _ := o6
            cases q2 : ixN xs.length kk with
            | none => rw [q2] at o6; exact False.elim o6
            | some j =>
              rw [q2] at o6
              refine ⟨a, vs3, kk, j, rfl, r2, h13, by rw [h23.length]; exact q2, ?_⟩
              obtain ⟨p, S'⟩ := k (h23.set j (show Rep (gx X T) H3 (avo Fb F) (.int (m + n)) (.int (m + n)) from rfl))
              exact o6 _ _ _ p S'
          | _ => exact False.elim o5
        | _ => exact False.elim o5
    | _ => exact False.elim o3
  · exact False.elim o
/-! ### [..] * n, a new list -/
def repL : D → D → Res (List D)
  | .lst a, .int k => if -(2 ^ 63) ≤ k ∧ k < 2 ^ 63 ∧ a.length * k.toNat ≤ sizeLine then .ok (List.replicate k.toNat a).flatten else .bad
  | _, _ => .bad
theorem mf_rep (ha : ME T Fb X a ma) (hb : MB T Fb X b mb) : MF T Fb X (.BinOp a .Mult b pos) (mBinF repL ma mb) := by
  refine ⟨fun σ H F ρ Q S o => (pe_op op_rep pe_tw pe_tw).tw ?_⟩
  refine ha.run σ H F ρ _ S (o.bind.imp fun x hx o1 v H1 s1 r1 => ?_)
  refine hb.run σ H1 F ρ _ (S.same s1) ((o1.same s1).bind.imp fun y hy o2 u H2 s2 r2 => ?_)
  have r1 := r1.same s2
  clear hx hy
  cases x <;> cases y <;> try exact False.elim o2
  rename_i ls k
  obtain ⟨⟨h1, h2, h3⟩, f⟩ := o2.if
  obtain ⟨a, vs, rfl, ⟨ha, _⟩, rv⟩ := r1
  have r2 : u = V.int k := r2
  refine ⟨a, _, vs, rfl, r2, ha, h1, h2, by rw [rv.length]; exact h3, fun p hp => ?_⟩
  have s := s1.trans s2
  exact f p _ _ (s.free hp) (s.trans (same_upd hp)) upd_same ((rv.rep _).new hp)
end
end Cr
/-! Core, part 28: generators of tuples; elements with items, comparisons, and. -/
namespace Cr
open PySem PySem.Spec PyProof.Rows L2 GxR
section
variable {X : Cx} {pins : List (Addr × Obj)} {σ : L2.St} {H : Hp} {s : Shared}
theorem gen_tup {c P : Addr} {elt iter : Expr} {x : Str} {px gpos : Pos} {scope : Scope} {te : TE} {k : Nat} {Q' : Value → Shared → Prop} {R : List Bool → Hp → Prop}
    (hr : Room k X.A) (TB : TabB X.base X.mg c P) (hcode : X.env.code = .ref c) (S : GenS X.env scope x) (hi : PE X iter te)
    (hs : ∀ v, genFold iter X.env v = pure v) (I : Inv X pins σ H s)
    (h : te σ H fun v H1 => ∃ (a : Addr) (xs : List V) (bs : List Bool), v = .ref a ∧ SqT X.K H1 a xs ∧ TabG H1 P ∧ bs.length = xs.length ∧
      (∀ (s1 : Shared) (cenv : PySem.Env) (its : List Value), Inv X pins σ H1 s1 → Vals xs its → GEnv X s1.heap scope cenv → ∀ (j : Nat) (b : Bool) (u : Value), bs[j]? = some b → its[j]? = some u → Qe X.prog X.w s1.heap cenv [(x, u)] elt (· = .bool b)) ∧ R bs H1)
    (hQ : ∀ bs H1 g s5, R bs H1 → ReadyB X pins σ H1 P bs g s5 → Q' (.ref g) s5) :
    wpAny (model X.prog X.w) X.A (eval (.GeneratorExp elt [⟨.Name x px, iter, [], 0⟩] scope gpos) X.env) Q' X.xe s := by
  refine wpAny_GeneratorExp_walksQ hr.hd S.co (closure_ok S.free) S.cell S.dot S.loc S.kind (by have := hr.dp; omega) ?_ hs
  refine thn (hi.run pins s σ H _ I h) fun xv s1 ⟨v, H1, I1, r1, q1⟩ => ?_
  obtain ⟨a, xs, bs, rfl, hq, ⟨ps, hP, ht⟩, hbl, hel, q1⟩ := q1
  obtain rfl : xv = .ref a := r1
  obtain ⟨its, rv, pl, hz⟩ := I1.tuple hq
  have hln := rv.length
  have hal : a < s1.heap.objs.size := (let ⟨o, ho, _⟩ := pl; Heap.lt_size ho)
  refine wpAny_pyIter_tuple (show s1.heap.IsTuple a its.toArray from pl) ?_
  generalize ho : ({ cls := .type "tuple_iterator", data := .fields #[.ref a, .int 0 0] } : Obj) = o
  have hIa : a ≠ s1.heap.objs.size := Nat.ne_of_lt hal
  have hst : (s1.heap.push o).IsTupleIter s1.heap.objs.size a 0 ∧ (s1.heap.push o).IsTuple a its.toArray := by
    refine ⟨⟨o, ?_, ?_, ?_⟩, ?_⟩
    · rw [← ho]; exact Heap.get?_push_size _ rfl
    · subst ho; rfl
    · subst ho; rfl
    · obtain ⟨ob, hob, hc, n, hd⟩ := pl
      exact ⟨ob, Heap.get?_push_of_some _ hob, hc, n, hd⟩
  have hPs : s1.heap.get? P = some { cls := .none, data := .fields ps } := I1.hok P _ hP
  have hPlt : P < s1.heap.objs.size := Heap.lt_size hPs
  have haP : a ≠ P := fun z => by
    obtain ⟨ob, hob, hc, n, hd⟩ := pl
    rw [z, hPs] at hob
    cases hob
    cases hd
  have hP2 : (s1.heap.push o).get? P = some { cls := .none, data := .fields ps } := Heap.get?_push_of_some _ hPs
  have cd : PySem.W.CodeHd (s1.heap.push o) c P := TB.code.keeps fun b u e => Heap.get?_push_of_some _ (I1.bk b u e)
  have lim2 : (s1.heap.push o).NoLimit := I1.nolimit.push o
  have cont : ∀ (code : Value) (h3 : Heap) (tk : Nat) (ps' : Array Value), Heap.ExtBut P (s1.heap.push o) h3 → (s1.heap.push o).objs.size ≤ h3.objs.size → h3.get? P = some { cls := .none, data := .fields ps' } → (∃ more, ps' = ps ++ more) → TriplesOk ps'.toList →
      wpAny (model X.prog X.w) X.A (builtinsFor X.env.globals X.env.builtins) (fun bi s₄ =>
        ∃ Ia fp wr n₀ Pf St₀ pz F, Value.ref s1.heap.objs.size = .ref Ia ∧ (∀ A' : Around, A'.handled = none → Walks X.prog X.w A' Ia fp wr n₀ Pf St₀) ∧ St₀ 0 s₄.heap ∧ (∀ b ∈ fp, b < s₄.heap.objs.size) ∧ s₄.heap.NoLimit ∧ cStatics ∉ wr ∧
          (∀ href : Heap, (∀ b o, s₄.heap.get? b = some o → href.get? b = some o) →
            QuietGen X.prog X.w (genEnv scope (cloFrom X.env.cells scope.names []) s₄.heap.objs.size code bi X.env) x [] elt (List.range s₄.heap.objs.size) wr Pf pz F href) ∧
          (∀ a h₅ tk gs, gs.bare = true → s₄.heap.objs.size < a → h₅.objs.size = a + 1 → (∀ b o, s₄.heap.get? b = some o → h₅.get? b = some o) →
            WalksS X.prog X.w X.A.in4 a (a :: s₄.heap.objs.size :: List.range s₄.heap.objs.size) (s₄.heap.objs.size :: wr) (GenOnlyQ s₄.gens.size) (passing pz n₀ 0).length
              (fun j y => ∃ i, (passing pz n₀ 0)[j]? = some i ∧ F i y) (GenAt X.prog X.w X.A.in4 a s₄.gens.size s₄.heap.objs.size (List.range s₄.heap.objs.size) wr pz n₀ F) →
            GenAt X.prog X.w X.A.in4 a s₄.gens.size s₄.heap.objs.size (List.range s₄.heap.objs.size) wr pz n₀ F 0 { s₄ with gens := s₄.gens.push gs, toks := tk, heap := h₅ } →
            Q' (.ref a) { s₄ with gens := s₄.gens.push gs, toks := tk, heap := h₅ })) X.xe { s1 with heap := h3, toks := tk } := by
    intro code h3 tk ps' hx hsz hP3 hmore ht3
    obtain ⟨bm, ob, e1, e2, e3, e4, e5, e6, e7, e8⟩ := TB.bm
    have hcP : cStatics ≠ P := fun e => by
      obtain ⟨_, hns, _⟩ := I1.nolimit
      obtain ⟨o', es, ep, ho, hd, _⟩ := hns
      rw [e, hPs] at ho
      cases ho
      cases hd
    have hcl : cStatics < s1.heap.objs.size := let ⟨_, hns, _⟩ := I1.nolimit; hns.lt
    have sz2 : (s1.heap.push o).objs.size = s1.heap.objs.size + 1 := Heap.size_push ..
    have keep3 : ∀ b u, b ≠ P → s1.heap.get? b = some u → h3.get? b = some u := fun b u hb e => hx b u hb (Heap.get?_push_of_some _ e)
    refine wpAny_builtinsFor (m := X.mg) (by rw [I1.ok.glob]; exact ((I1.mod.glob.keeps I1.bk).push o).extBut hx TB.gP) e1 e2 (keep3 _ _ e4 (I1.bk _ _ e5)) e6 e7 e8 ?_
    refine ⟨s1.heap.objs.size, [s1.heap.objs.size, a], [s1.heap.objs.size], its.toArray.size, _, _, (fun _ => true), (fun i y => i < bs.length ∧ y = .bool (bs.getD i false)), rfl, fun A hA => Walks.tuple hA s1.heap.objs.size a hIa its.toArray, ?_, ?_, lim2.extBut hx hcP, ?_, ?_, ?_⟩
    · refine (Walks.tuple (prog := X.prog) (w := X.w) hr.hd s1.heap.objs.size a hIa its.toArray).frame _ _ _ hst fun b hb u e => hx b u (fun z => ?_) e
      rcases List.mem_cons.mp hb with z2 | z2
      · exact Nat.ne_of_lt hPlt (z.symm.trans z2)
      · exact haP ((List.mem_singleton.mp z2).symm.trans z)
    · intro b hb
      show b < h3.objs.size
      rcases List.mem_cons.mp hb with z | z
      · rw [z]
        have : s1.heap.objs.size + 1 ≤ h3.objs.size := by rw [← sz2]; exact hsz
        exact this
      · rw [List.mem_singleton.mp z]
        have h9 : s1.heap.objs.size + 1 ≤ h3.objs.size := by rw [← sz2]; exact hsz
        exact Nat.lt_of_lt_of_le (Nat.lt_succ_of_lt hal) h9
    · intro z
      exact Nat.ne_of_lt hcl (List.mem_singleton.mp z)
    · intro href hhref
      refine ⟨fun A' E' i v s₂ m₂ hA hPv hn hm hk => ?_, fun A' E' i v s₂ m₂ hA hPv hp hn hm hk => ?_⟩
      · simp only [List.forIn_nil]
        exact wpAny_pure ⟨rfl, keeps_refl _⟩
      · have hPv : its.toArray[i]? = some v := hPv
        have hv : its[i]? = some v := by simpa using hPv
        have hil : i < its.length := (List.getElem?_eq_some_iff.mp hv).1
        have hib : i < bs.length := by omega
        have hb : bs[i]? = some (bs.getD i false) := by rw [List.getD_eq_getElem?_getD, List.getElem?_eq_getElem hib]; rfl
        have ge : GEnv X s1.heap scope (genEnv scope (cloFrom X.env.cells scope.names []) h3.objs.size code builtinsNs X.env) :=
          ⟨⟨S.kind, I1.ok.glob, rfl, I1.mod.glob.keeps I1.bk, by obtain ⟨mb, n1, n2⟩ := I1.mod.blt; exact ⟨mb, n1.keeps I1.bk, n2⟩⟩, rfl, rfl⟩
        have qs : QSt s1.heap (genEnv scope (cloFrom X.env.cells scope.names []) h3.objs.size code builtinsNs X.env) [(x, v)] s₂ := by
          refine ⟨⟨m₂, hn, fun y u e => ?_⟩, fun b u e d => ?_⟩
          · rw [List.lookup_cons] at e
            split at e
            · rename_i q
              cases e
              rw [beq_iff_eq.mp q]; exact hm
            · cases e
          · have hbP : b ≠ P := fun z => by
              rw [z, hPs] at e
              cases e
              exact d _ rfl
            have hbl := Heap.lt_size e
            have h9 : s1.heap.objs.size + 1 ≤ h3.objs.size := by rw [← sz2]; exact hsz
            refine hk b (List.mem_range.mpr (Nat.lt_of_lt_of_le (Nat.lt_succ_of_lt hbl) h9)) (fun z => Nat.ne_of_lt hbl (List.mem_singleton.mp z)) u (hhref b u (keep3 b u hbP e))
        exact wpAny_mono (hel s1 _ its I1 rv ge i _ v hb hv A' E' s₂ hA qs) (fun y s3 r => ⟨⟨hib, r.1⟩, r.2⟩) fun _ _ e => e
    · intro g h5 tk5 gs hgb hag hsz5 hk5 W5 hat
      simp only [GxR.passing_true, List.length_range] at W5
      have hn : its.toArray.size = bs.length := by simp; omega
      rw [hn] at W5 hat
      refine hQ bs H1 g _ q1 ⟨_, _, _, _, _, W5.in4_1, hat, ?_, fun s' hm => ?_⟩
      · intro j y sj Qj Ej hy hQj
        obtain ⟨i, hij, hib, rfl⟩ := hy
        obtain ⟨hj, ej⟩ := List.getElem?_eq_some_iff.mp hij
        rw [List.getElem_range] at ej
        subst ej
        exact wpAny_truthy_bool hQj
      · obtain ⟨more, em⟩ := hmore
        have nwr : ∀ b u, s1.heap.get? b = some u → b ∉ h3.objs.size :: [s1.heap.objs.size] := fun b u e hb => by
          have hl := Heap.lt_size e
          rcases List.mem_cons.mp hb with z | z
          · rw [z] at hl
            have h9 : (h3.objs.size : Nat) < s1.heap.objs.size := hl
            omega
          · rw [List.mem_singleton.mp z] at hl
            exact Nat.lt_irrefl _ hl
        have J := inv_tab (more := more) (h' := s'.heap) (g' := s'.gens) (d' := s'.drawn) (t' := s'.toks) I1 hP (fun b u hb e => hm.heap b u (nwr b u e) (hk5 b u (keep3 b u hb e)))
          (by rw [← em]; exact hm.heap P _ (nwr P _ hPs) (hk5 P _ hP3)) (AllBare.movedS (I1.bare.push hgb) hm)
        rw [sh_eta s1 s' hm.os] at J
        refine ⟨upd H1 P (.tbl (ps ++ more)), fun b u e => ?_, J⟩
        by_cases hb : b = P
        · rw [hb, hP] at e
          cases e
          rw [hb]
          exact ⟨more, upd_same, fun _ => by rw [← em]; exact ht3⟩
        · rw [upd_ne hb]; exact .of e
  refine ⟨lim2, ?_⟩
  cases hf : codeAmong gpos ps.toList with
  | none =>
    refine wpAny_genexprCodeX hcode (cd.code hP2 ht) (cd.tab hP2) hf fun c' h' tk hx hge hlt hco' _ htab' _ => ?_
    obtain ⟨o1, vs, f1, tf, fl, tg, inF, tx, tt, op, _, _, _, _, _, _, _, _, _, htr, _⟩ := hco'
    exact cont _ h' tk _ hx (Nat.le_trans hge (Nat.le_of_lt hlt)) htab'.2 ⟨_, rfl⟩ htr
  | some cv =>
    refine wpAny_genexprCode_hit hcode (cd.code hP2 ht) hf ?_
    exact cont cv (s1.heap.push o) s1.toks ps (Heap.ExtBut.refl _ _) (Nat.le_refl _) hP2 ⟨#[], by simp⟩ ht
end
section
variable {prog : Program} {w : World} {mg : Str → Option Value} {hr : Heap} {cenv : PySem.Env} {loc : List (Str × Value)} {x : Str} {pos p : Pos} {e a b c d : Expr} {P Pa Pb Pc Pd : Value → Prop}
/-- a[k], a tuple's item -/
theorem q_ixT {ki : Int} {j : Nat} {p2 : Pos} (h0 : 0 ≤ ki ∧ ki < 1000) (ha : Qe prog w hr cenv loc a (fun y => ∃ (t : Addr) (xs : List Value) (v : Value), y = .ref t ∧ PyProof.Rows.IsTup hr t xs.toArray ∧ xs.length ≤ sizeLine ∧ xs[ki.toNat]? = some v ∧ P v))
    (ht : ∀ o r, letTemporaryGo a o r = pure () := by intro _ _; rfl) : Qe prog w hr cenv loc (.Subscript a (.Constant (.int ki) j p2) pos) P := by
  intro A E s hA q
  refine Subscript_Constant (wpAny_mono (ha A E s hA q) (fun y s1 r => ?_) fun _ _ z => z) ht
  obtain ⟨⟨t, xs, v, rfl, hl, hz, hx, hP⟩, k⟩ := r
  refine wpAny_Constant_int ?_
  have pl : PyProof.Rows.IsTup s1.heap t xs.toArray := by
    obtain ⟨o, ho, hc, n, hd⟩ := hl
    exact ⟨o, (q.keeps k).keep _ _ ho (fun ps z => by rw [hd] at z; cases z), hc, n, hd⟩
  have hlt := (List.getElem?_eq_some_iff.mp hx).1
  have h16 := sizeLine_eq
  refine ⟨"tuple", _, PySem.F.slot_tuple_getitem.lookup, (show s1.heap.IsTuple t xs.toArray from pl).typeIs, ?_⟩
  exact PyProof.Rows.getItem_tuple (j := ki.toNat) pl (by omega) (by omega) (by rw [List.size_toArray, seqIndex_of h0.1 (by omega)]) (by simpa using hx) ⟨hP, kTr k (keeps_tok s1 _)⟩
theorem q_eqI {i k : Int} (ha : Qe prog w hr cenv loc a (IsI i)) (hb : Qe prog w hr cenv loc b (IsI k)) (hm : behindInMarks .Eq b = false := by with_unfolding_all rfl) : Qe prog w hr cenv loc (.Compare a [.Eq] [b] pos) (· = .bool (decide (i = k))) := by
  intro A E s hA q
  refine wpAny_Compare1 (wpAny_mono (ha A E s hA q) (fun y s1 r => ?_) fun _ _ z => z) hm
  obtain ⟨⟨t, rfl⟩, k1⟩ := r
  refine wpAny_mono (hb A E s1 hA (q.keeps k1)) (fun y s2 r => ?_) fun _ _ z => z
  obtain ⟨⟨t2, rfl⟩, k2⟩ := r
  refine PySem.P.eq_int ⟨?_, kTr k1 k2⟩
  by_cases z : i = k
  · subst z; simp
  · simp [z]
def IsS (i : Str) (y : Value) : Prop := ∃ t, y = .str i t
theorem q_eqS {i k : Str} (ha : Qe prog w hr cenv loc a (IsS i)) (hb : Qe prog w hr cenv loc b (IsS k)) (hm : behindInMarks .Eq b = false := by with_unfolding_all rfl) : Qe prog w hr cenv loc (.Compare a [.Eq] [b] pos) (· = .bool (decide (i = k))) := by
  intro A E s hA q
  refine wpAny_Compare1 (wpAny_mono (ha A E s hA q) (fun y s1 r => ?_) fun _ _ z => z) hm
  obtain ⟨⟨t, rfl⟩, k1⟩ := r
  refine wpAny_mono (hb A E s1 hA (q.keeps k1)) (fun y s2 r => ?_) fun _ _ z => z
  obtain ⟨⟨t2, rfl⟩, k2⟩ := r
  refine PySem.P.eq_str ⟨?_, kTr k1 k2⟩
  by_cases z : i = k
  · subst z; simp
  · have : ¬ i.cps = k.cps := fun h => z (by cases i; cases k; simp at h; rw [h])
    simp [z, this]
theorem q_and {i : Bool} (ha : Qe prog w hr cenv loc a (· = .bool i)) (hf : i = false → P (.bool false)) (hb : i = true → Qe prog w hr cenv loc b P) : Qe prog w hr cenv loc (.BoolOp .And [a, b] pos) P := by
  intro A E s hA q
  refine BoolOp_and (wpAny_mono (ha A E s hA q) (fun y s1 r => ?_) fun _ _ z => z)
  obtain ⟨rfl, k1⟩ := r
  refine wpAny_truthy_bool ?_
  cases i with
  | false => exact ⟨hf rfl, k1⟩
  | true =>
    refine BoolOp_one (wpAny_mono (hb rfl A E s1 hA (q.keeps k1)) (fun y s2 r => ?_) fun _ _ z => z)
    exact ⟨r.1, kTr k1 r.2⟩
end
def idxP : D → D → Res D
  | .tup ds, .int i => if 0 ≤ i ∧ i < 1000 then (match ds[i.toNat]? with
    | some d => .ok d
    | none => .bad) else .bad
  | _, _ => .bad
def eqS : D → D → Res D
  | .int a, .int b => .ok (.bl (decide (a = b)))
  | .str a, .str b => .ok (.bl (decide (a = b)))
  | _, _ => .bad
section
variable {T : CT} {Fb : Gh} {X : Cx} {scope : Scope} {tg : List (Str × Nat)} {x : Str} {pos p : Pos} {e a b c d : Expr} {m ma mb mc md : Env → Res D}
theorem qm_ixT {ki : Int} {j : Nat} {p2 : Pos} (ha : QM T Fb X scope tg a ma) (ht : ∀ o r, letTemporaryGo a o r = pure () := by intro _ _; rfl) : QM T Fb X scope tg (.Subscript a (.Constant (.int ki) j p2) pos) (mBin idxP ma (mC (.int ki))) := by
  refine ⟨fun pins σ H F ρ0 ρ1 s cenv loc S I ge htt hoo d' e' => ?_⟩
  obtain ⟨x1, q1, e'⟩ := bind_inv e'
  obtain ⟨x2, q2, e'⟩ := bind_inv e'
  have q2 : Res.ok (D.int ki) = .ok x2 := q2
  injection q2 with q2
  subst q2
  cases x1 with
  | tup ds =>
    have e' : (if 0 ≤ ki ∧ ki < 1000 then (match ds[ki.toNat]? with
      | some d => Res.ok d
      | none => .bad) else .bad) = .ok d' := e'
    by_cases h0 : 0 ≤ ki ∧ ki < 1000
    · rw [if_pos h0] at e'
      cases q3 : ds[ki.toNat]? with
      | none => rw [q3] at e'; cases e'
      | some dd =>
        rw [q3] at e'
        have e' : Res.ok dd = .ok d' := e'
        injection e' with e'
        subst e'
        refine q_ixT h0 ((ha.run pins σ H F ρ0 ρ1 s cenv loc S I ge htt hoo _ q1).imp fun y ⟨v, r, h⟩ => ?_) ht
        obtain ⟨t, vs, rfl, h1, h2⟩ := h
        obtain rfl : y = .ref t := r
        obtain ⟨its, rv, pl, hz⟩ := I.tuple (tup_sq h1)
        obtain ⟨v2, hv2, r2⟩ := h2.get q3
        obtain ⟨u, hu, ru⟩ := rv.get hv2
        have hl := rv.length
        exact ⟨t, its, u, rfl, pl, by omega, hu, v2, ru, r2.b⟩
    · rw [if_neg h0] at e'; cases e'
  | _ => cases e'
theorem qm_eqS (ha : QM T Fb X scope tg a ma) (hb : QM T Fb X scope tg b mb) (hm : behindInMarks .Eq b = false := by with_unfolding_all rfl) : QM T Fb X scope tg (.Compare a [.Eq] [b] pos) (mBin eqS ma mb) := by
  refine ⟨fun pins σ H F ρ0 ρ1 s cenv loc S I ge htt hoo d' e' => ?_⟩
  obtain ⟨x1, q1, e'⟩ := bind_inv e'
  obtain ⟨x2, q2, e'⟩ := bind_inv e'
  have ra := ha.run pins σ H F ρ0 ρ1 s cenv loc S I ge htt hoo _ q1
  have rb := hb.run pins σ H F ρ0 ρ1 s cenv loc S I ge htt hoo _ q2
  cases x1 with
  | int i =>
    cases x2 with
    | int k =>
      have e' : Res.ok (D.bl (decide (i = k))) = .ok d' := e'
      injection e' with e'
      subst e'
      exact (q_eqI (ra.imp fun y ⟨v, r, h⟩ => repInt r h) (rb.imp fun y ⟨v, r, h⟩ => repInt r h) hm).imp fun y z => ⟨.bl (decide (i = k)), z, rfl⟩
    | _ => cases e'
  | str i =>
    cases x2 with
    | str k =>
      have e' : Res.ok (D.bl (decide (i = k))) = .ok d' := e'
      injection e' with e'
      subst e'
      refine (q_eqS (i := i) (k := k) (ra.imp fun y ⟨v, r, h⟩ => ?_) (rb.imp fun y ⟨v, r, h⟩ => ?_) hm).imp fun y z => ⟨.bl (decide (i = k)), z, rfl⟩
      · have h : v = .str i := h
        subst h
        exact r
      · have h : v = .str k := h
        subst h
        exact r
    | _ => cases e'
  | _ => cases e'
theorem qm_and (ha : QM T Fb X scope tg a ma) (hb : QM T Fb X scope tg b mb) : QM T Fb X scope tg (.BoolOp .And [a, b] pos) (mAndV ma mb) := by
  refine ⟨fun pins σ H F ρ0 ρ1 s cenv loc S I ge htt hoo d' e' => ?_⟩
  obtain ⟨i, q0, e'⟩ := bind_inv e'
  obtain ⟨x0, q0, q0'⟩ := bind_inv q0
  have hx : x0 = .bl i := by
    cases x0 with
    | bl z => have q0' : Res.ok z = .ok i := q0'; injection q0' with q0'; rw [q0']
    | _ => cases q0'
  subst hx
  have ra := (ha.run pins σ H F ρ0 ρ1 s cenv loc S I ge htt hoo _ q0).imp (Pa := (· = .bool i)) fun y ⟨v, r, h⟩ => by
    have h : v = .bl i := h
    subst h
    exact r
  cases i with
  | false =>
    have e' : Res.ok (D.bl false) = .ok d' := e'
    injection e' with e'
    subst e'
    exact q_and ra (fun _ => ⟨.bl false, rfl, rfl⟩) (fun z => by cases z)
  | true => exact q_and ra (fun z => by cases z) fun _ => hb.run pins σ H F ρ0 ρ1 s cenv loc S I ge htt hoo _ e'
section
variable {elt iter : Expr} {px gpos : Pos} {i k : Nat} {cc P : Addr} {mi me : Env → Res D}
theorem gen_argsT {pins : List (Addr × Obj)} {σ : L2.St} {H : Hp} {F : List Addr} {ρ : Env} {Q : VK} {f : List Bool → Bool} {gD : List D → Res D} (hgD : ∀ ds d, gD [.lst ds] = .ok d → ∃ bs, ds = bs.map D.bl ∧ d = .bl (f bs)) (hge : ∀ ds z, gD [.lst ds] ≠ .err z)
    (S : StR (gx X T) Fb H σ ρ F) (hT : T.tab P) (ha : MB T Fb X iter mi) (he : QM T Fb X scope [(x, i)] elt me)
    (o : Out X T σ H (mArg gD (mCons (toE (mComp [i] (mUnF tupOf mi) (gN i) mYes me)) mNil) ρ) fun d => ∀ v H', Same H H' → Rep (gx X T) H' (avo Fb F) d v → Q v H') :
    TWe X iter σ H fun v H1 => ∃ (a : Addr) (xs : List V) (bs : List Bool), v = .ref a ∧ SqT X.K H1 a xs ∧ GxR.TabG H1 P ∧ bs.length = xs.length ∧
      (∀ (s1 : Shared) (cenv : PySem.Env) (its : List Value), Inv X pins σ H1 s1 → Vals xs its → GEnv X s1.heap scope cenv → ∀ (j : Nat) (b : Bool) (u : Value), bs[j]? = some b → its[j]? = some u → Qe X.prog X.w s1.heap cenv [(x, u)] elt (· = .bool b)) ∧ (∀ H2, Same H1 H2 → Q (.bl (f bs)) H2) := by
  refine ha.run σ H F ρ _ S (o.bind.bind.bind.bind.bind.imp fun y ey o1 v H1 s1 r1 => ?_)
  cases y with
  | tup xs =>
    obtain ⟨a, vs, rfl, h1, h2⟩ := r1
    have S1 := S.same s1
    have o1 : Out X T σ H (match decide (xs.length ≤ sizeLine) with
      | true => compL (gN i) mYes me (wipeE ρ [i]) xs
      | false => .bad) fun ds => Out X T σ H (gD [.lst ds]) fun d => ∀ v H', Same H H' → Rep (gx X T) H' (avo Fb F) d v → Q v H' := o1
    by_cases hz : xs.length ≤ sizeLine
    · rw [decide_eq_true hz] at o1
      have o1 : Out X T σ H (compL (gN i) mYes me (wipeE ρ [i]) xs) fun ds => Out X T σ H (gD [.lst ds]) fun d => ∀ v H', Same H H' → Rep (gx X T) H' (avo Fb F) d v → Q v H' := o1
      cases q : compL (gN i) mYes me (wipeE ρ [i]) xs with
      | err z => exact absurd q compL_noerr
      | bad => rw [q] at o1; exact False.elim o1
      | ok ds =>
        rw [q] at o1
        have o1 : Out X T σ H (gD [.lst ds]) fun d => ∀ v H', Same H H' → Rep (gx X T) H' (avo Fb F) d v → Q v H' := o1
        cases q2 : gD [.lst ds] with
        | err z => exact absurd q2 (hge _ z)
        | bad => rw [q2] at o1; exact False.elim o1
        | ok d =>
          rw [q2] at o1
          obtain ⟨bs, rfl, rfl⟩ := hgD _ _ q2
          obtain ⟨c1, c2⟩ := compL_at xs _ q
          rw [List.length_map] at c1
          refine ⟨a, vs, bs, rfl, tup_sq h1, S1.tbs P hT, by rw [c1, h2.length], fun s2 cenv its I rv ge j b u eb eu => ?_, fun H2 s2 => o1 _ H2 (s1.trans s2) rfl⟩
          have hjx : j < xs.length := by have := (List.getElem?_eq_some_iff.mp eb).1; omega
          obtain ⟨w, hw, rw'⟩ := h2.get (List.getElem?_eq_getElem hjx)
          obtain ⟨u', hu', ru⟩ := rv.get hw
          rw [eu] at hu'
          cases hu'
          obtain ⟨ρ1, g1, m1⟩ := c2 j _ (.bl b) (List.getElem?_eq_getElem hjx) (by rw [List.getElem?_map, eb]; rfl)
          obtain ⟨g2, g3⟩ := gN_at g1
          refine (he.run pins σ H1 F ρ ρ1 s2 cenv [(x, u)] S1 I ge (fun x' i' hm => ?_) (fun i' hi' => ?_) _ m1).imp fun y ⟨v, r, h⟩ => ?_
          · simp at hm
            obtain ⟨rfl, rfl⟩ := hm
            exact ⟨_, w, u, g2, by simp [List.lookup_cons], ru, rw'⟩
          · simp at hi'
            rw [g3 i' hi', wipe_atE (by simp; exact hi')]
          · have h : v = .bl b := h
            subst h
            exact r
    · rw [decide_eq_false hz] at o1; exact False.elim o1
  | _ => exact False.elim o1
theorem me_allGT (i : Nat) (hr : Room k X.A) (hm : X.mg "all" = none) (hT : T.tab P) (TB : GxR.TabB X.base X.mg cc P) (ha : MB T Fb X iter mi) (he : QM T Fb X scope [(x, i)] elt me)
    (hcode : X.env.code = .ref cc := by rfl) (S0 : genB X.env.scope.names scope [x] = true) (hg : Gl X "all" := by rfl)
    (hs : ∀ v, genFold iter X.env v = pure v := by intro _; rfl)
    (hst : starEach [.GeneratorExp elt [⟨.Name x px, iter, [], 0⟩] scope gpos] X.env = (false, eval (.GeneratorExp elt [⟨.Name x px, iter, [], 0⟩] scope gpos) X.env) :: starEach [] X.env := by rfl) :
    ME T Fb X (.Call (.Name "all" p) [.GeneratorExp elt [⟨.Name x px, iter, [], 0⟩] scope gpos] [] pos) (mArg allD (mCons (toE (mComp [i] (mUnF tupOf mi) (gN i) mYes me)) mNil)) := by
  refine ⟨fun σ H F ρ Q S o pins s I => ?_⟩
  refine wpAny_Call_Name_kw (ld_blt I hg hm (show bootBuiltins ("all" : Str) = some (.builtin "all") by decide +kernel) ?_)
  refine PyProof.Rows.callWith_builtin1 ?_ hst (by rfl)
  rw [hst]
  show wpAny _ _ (spliced ((false, eval (.GeneratorExp elt [⟨.Name x px, iter, [], 0⟩] scope gpos) X.env) :: backTo pos (starEach [] X.env))) _ _ s
  refine Calls.spliced_cons (gen_tup (R := fun bs H1 => ∀ H2, Same H1 H2 → Q (.bl (bs.all id)) H2) hr TB hcode (genS_of S0 I.ok) pe_tw hs I (gen_argsT (gD := allD) allD_inv allD_ne S hT ha he o) fun bs H1 g s5 hR hG => ?_)
  obtain ⟨fp, wr, G, F', St, W, hst', htr, hI⟩ := hG
  refine Calls.spliced_nil ?_
  refine call_all_walkS (W.self 0 _ _ _ hst' ⟨g, fp, wr, G, _, F', St, _, rfl, W, hst', htr, fun s' hmv => ?_⟩)
  obtain ⟨H2, hT2, J⟩ := hI s' hmv
  refine ⟨.bl _, H2, J, rfl, ?_⟩
  rw [(range_bs bs).1]
  exact hR H2 hT2
theorem me_anyGT (i : Nat) (hr : Room k X.A) (hm : X.mg "any" = none) (hT : T.tab P) (TB : GxR.TabB X.base X.mg cc P) (ha : MB T Fb X iter mi) (he : QM T Fb X scope [(x, i)] elt me)
    (hcode : X.env.code = .ref cc := by rfl) (S0 : genB X.env.scope.names scope [x] = true) (hg : Gl X "any" := by rfl)
    (hs : ∀ v, genFold iter X.env v = pure v := by intro _; rfl)
    (hst : starEach [.GeneratorExp elt [⟨.Name x px, iter, [], 0⟩] scope gpos] X.env = (false, eval (.GeneratorExp elt [⟨.Name x px, iter, [], 0⟩] scope gpos) X.env) :: starEach [] X.env := by rfl) :
    ME T Fb X (.Call (.Name "any" p) [.GeneratorExp elt [⟨.Name x px, iter, [], 0⟩] scope gpos] [] pos) (mArg anyD (mCons (toE (mComp [i] (mUnF tupOf mi) (gN i) mYes me)) mNil)) := by
  refine ⟨fun σ H F ρ Q S o pins s I => ?_⟩
  refine wpAny_Call_Name_kw (ld_blt I hg hm (show bootBuiltins ("any" : Str) = some (.builtin "any") by decide +kernel) ?_)
  refine PyProof.Rows.callWith_builtin1 ?_ hst (by rfl)
  rw [hst]
  show wpAny _ _ (spliced ((false, eval (.GeneratorExp elt [⟨.Name x px, iter, [], 0⟩] scope gpos) X.env) :: backTo pos (starEach [] X.env))) _ _ s
  refine Calls.spliced_cons (gen_tup (R := fun bs H1 => ∀ H2, Same H1 H2 → Q (.bl (bs.any id)) H2) hr TB hcode (genS_of S0 I.ok) pe_tw hs I (gen_argsT (gD := anyD) anyD_inv anyD_ne S hT ha he o) fun bs H1 g s5 hR hG => ?_)
  obtain ⟨fp, wr, G, F', St, W, hst', htr, hI⟩ := hG
  refine Calls.spliced_nil ?_
  refine call_any_walkS (W.self 0 _ _ _ hst' ⟨g, fp, wr, G, _, F', St, _, rfl, W, hst', htr, fun s' hmv => ?_⟩)
  obtain ⟨H2, hT2, J⟩ := hI s' hmv
  refine ⟨.bl _, H2, J, rfl, ?_⟩
  rw [(range_bs bs).2]
  exact hR H2 hT2
end
end
end Cr
/-! Core, part 29: zip of tuples; list.count; in: nested data in a tuple; tuples times a number. -/
namespace Cr
open PySem PySem.Spec PyProof.Rows L2
open AutoSeq1 (wpAny_loadPart')
/-! ### zip of two tuples -/
theorem it_zipT {G : Gx} {a b : Addr} {xs ys : List D} : ItOk G (RZ.ItzT G.K a b) (zipD xs ys) (fun H Av => ∃ vs ws, ((H a = some (.tup vs) ∧ ¬ Av a) ∨ KTup G.K a vs) ∧ ((H b = some (.tup ws) ∧ ¬ Av b) ∨ KTup G.K b ws) ∧ RepL G H Av xs vs ∧ RepL G H Av ys ws) where
  same := fun ⟨vs, ws, h1, h2, h3, h4⟩ s => ⟨vs, ws, h1.elim (fun q => .inl ⟨s _ _ q.1, q.2⟩) .inr, h2.elim (fun q => .inl ⟨s _ _ q.1, q.2⟩) .inr, h3.same s, h4.same s⟩
  new := fun ⟨vs, ws, h1, h2, h3, h4⟩ hp => ⟨vs, ws, h1.elim (fun q => .inl ⟨by rw [upd_ne (ne_of_none q.1 hp)]; exact q.1, fun z => z.elim (ne_of_none q.1 hp) q.2⟩) .inr, h2.elim (fun q => .inl ⟨by rw [upd_ne (ne_of_none q.1 hp)]; exact q.1, fun z => z.elim (ne_of_none q.1 hp) q.2⟩) .inr, h3.new hp, h4.new hp⟩
  go := fun {H Av i} ⟨vs, ws, h1, h2, h3, h4⟩ hi => by
    unfold zipD at hi
    rw [List.length_zipWith] at hi
    have l1 : i < vs.length := by rw [h3.length]; omega
    have l2 : i < ws.length := by rw [h4.length]; omega
    exact ⟨vs, ws, vs[i], ws[i], tup_sq h1, tup_sq h2, by simp, by simp⟩
  stop := fun {H Av i} ⟨vs, ws, h1, h2, h3, h4⟩ hi => by
    unfold zipD at hi
    rw [List.length_zipWith] at hi
    refine ⟨vs, ws, tup_sq h1, tup_sq h2, ?_⟩
    rw [h3.length, h4.length]
    omega
  yld := fun {H Av i x H' d} ⟨vs, ws, h1, h2, h3, h4⟩ hav e y => by
    obtain ⟨t, u, v, rfl, ht, rfl, y1, y2⟩ := y
    unfold zipD at e
    rw [List.getElem?_zipWith] at e
    cases q1 : xs[i]? with
    | none => rw [q1] at e; cases e
    | some d1 =>
      cases q2 : ys[i]? with
      | none => rw [q1, q2] at e; cases e
      | some d2 =>
        rw [q1, q2] at e
        cases e
        obtain ⟨v1, e1, r1⟩ := h3.get q1
        obtain ⟨v2, e2, r2⟩ := h4.get q2
        have e3 := y1 vs (tup_sq h1)
        have e4 := y2 ws (tup_sq h2)
        rw [e1] at e3
        rw [e2] at e4
        cases e3
        cases e4
        have s := same_upd (o := .tup [u, v]) ht
        exact ⟨s, t, [u, v], rfl, .inl ⟨upd_same, fun z => absurd ht (hav t z)⟩, u, [v], rfl, r1.same s, v, [], rfl, r2.same s, rfl⟩
def zipTL : List D → Res (List D)
  | [.tup xs, .tup ys] => .ok (zipD xs ys)
  | _ => .bad
section
variable {T : CT} {Fb : Gh} {X : Cx} {e a b o : Expr} {es : List Expr} {me ma mb mo : Env → Res D} {pos p tpos apos : Pos} {elts : List Expr} {kk : Nat} {x : Str}
theorem mi_zipT {ms : Env → Res (List D)} (hm : X.mg "zip" = none) (ha : ML T Fb X [a, b] ms) (hg : Gl X "zip" := by rfl)
    (hs : starEach [a, b] X.env = (false, eval a X.env) :: starEach [b] X.env := by rfl) (hpl : (backTo pos (starEach [b] X.env)).any (·.1) = false := by rfl) : MI T Fb X (.Tuple elts kk tpos) (.Call (.Name "zip" p) [a, b] [] pos) (mArg zipTL ms) := by
  refine ⟨_, RZ.pi_zipA hg hm pa_tw hs hpl, fun σ H F ρ R S o => ?_⟩
  refine ha.run σ H F ρ _ S (o.bind.imp fun ds _ o1 ws H1 s r => ?_)
  match ds, o1 with
  | [.tup xs, .tup ys], o1 =>
    obtain ⟨v, vr, rfl, ⟨p1, us, rfl, h1, r1⟩, w, vr2, rfl, ⟨p2, us2, rfl, h2, r2⟩, r3⟩ := r
    have r3 : vr2 = [] := r3
    subst r3
    refine ⟨p1, p2, us, us2, rfl, .inr ⟨tup_sq h1, tup_sq h2, o1 _ H1 (fun H Av => ∃ vs ws, ((H p1 = some (.tup vs) ∧ ¬ Av p1) ∨ KTup X.K p1 vs) ∧ ((H p2 = some (.tup ws) ∧ ¬ Av p2) ∨ KTup X.K p2 ws) ∧ RepL (gx X T) H Av xs vs ∧ RepL (gx X T) H Av ys ws) s it_zipT ?_ ⟨us, us2, h1, h2, r1, r2⟩⟩⟩
    exact fun {H H' Av Av'} q k => by
      obtain ⟨vs, ws, h1, h2, h3, h4⟩ := q
      exact ⟨vs, ws, h1.elim (fun z => .inl ⟨k.keep _ _ z.1 z.2, k.no z.1 z.2⟩) .inr, h2.elim (fun z => .inl ⟨k.keep _ _ z.1 z.2, k.no z.1 z.2⟩) .inr, RepL.mono k _ h3, RepL.mono k _ h4⟩
/-! ### l.count(k), ints -/
def cntD : List D → List D → Res D
  | xs, [.int k] => match intsOf xs with
    | some ns => .ok (.int (ns.count k : Nat))
    | none => .bad
  | _, _ => .bad
def cntL (l : D) (f : List D → Res D) : Res D := match l with
  | .lst xs => f xs
  | _ => .bad
def mCnt (mo : Env → Res D) (ms : Env → Res (List D)) : Env → Res D := fun ρ => mo ρ >>= fun l => cntL l fun xs => ms ρ >>= fun ds => cntD xs ds
theorem intsOf_rep {G : Gx} {H : Hp} {Av : Addr → Prop} : ∀ {xs : List D} {vs : List V} {ns : List Int}, RepL G H Av xs vs → intsOf xs = some ns → vs = ns.map V.int
  | [], vs, ns, r, e => by
    cases e
    exact r
  | d :: xs, vs, ns, r, e => by
    obtain ⟨v, vr, rfl, r1, r2⟩ := r
    cases d with
    | int i =>
      have e : (intsOf xs).map (i :: ·) = some ns := e
      cases q : intsOf xs with
      | none => rw [q] at e; cases e
      | some ms =>
        rw [q] at e
        cases e
        have r1 : v = V.int i := r1
        rw [r1, intsOf_rep r2 q]; rfl
    | _ => cases e
theorem me_cnt {ms : Env → Res (List D)} (ho : MB T Fb X o mo) (ha : ML T Fb X es ms)
    (hpe : ∀ {r : V → List V → Hp → VK → Prop} {to : TE} {t : TA}, MtR X "list.count" r → PE X o to → PA X es t → PE X (.Call (.Attribute o "count" apos) es [] p) (tBM X.K "list" r to t)) :
    ME T Fb X (.Call (.Attribute o "count" apos) es [] p) (mCnt mo ms) := by
  refine ⟨fun σ H F ρ Q S o1 => (hpe mt_lcount pe_tw pa_tw).tw ?_⟩
  refine ho.run σ H F ρ _ S (o1.bind.imp fun l _ o2 v H1 s1 r1 => ?_)
  cases l with
  | lst xs =>
    obtain ⟨a, vs, rfl, h1, h2⟩ := r1
    refine ⟨.inl ⟨rfl, vs, SqL.of h1⟩, ?_⟩
    refine ha.run σ H1 F ρ _ (S.same s1) (((show Out X T σ H (ms ρ >>= fun ds => cntD xs ds) _ from o2).same s1).bind.imp fun ds _ o3 ws H2 s2 r2 => ?_)
    match ds, o3 with
    | [.int k], o3 =>
      obtain ⟨w, wr, rfl, r3, r4⟩ := r2
      have r4 : wr = [] := r4
      have r3 : w = V.int k := r3
      subst r4 r3
      have o3 : Out X T σ H1 (match intsOf xs with
        | some ns => Res.ok (D.int (ns.count k : Nat))
        | none => .bad) _ := o3
      cases q : intsOf xs with
      | none => rw [q] at o3; exact False.elim o3
      | some ns =>
        rw [q] at o3
        have e := intsOf_rep h2 q
        subst e
        exact ⟨a, ns, k, rfl, rfl, SqL.of (s2 _ _ h1), o3 _ _ (s1.trans s2) rfl⟩
  | _ => exact False.elim o2
/-! ### in a tuple: nested data -/
def inTB : D → D → Res Bool
  | x, .tup ys => match toPy x, toPys ys with
    | some p, some ps => if SeqAt.shaped p && SeqAt.shaped (.tuple ps) then .ok (ps.any fun z => PyData.eqv z p) else .bad
    | _, _ => .bad
  | _, _ => .bad
def inTD : D → D → Res D := fun x y => inTB x y >>= fun k => .ok (.bl k)
def ninTD : D → D → Res D := fun x y => inTB x y >>= fun k => .ok (.bl (!k))
def rInT (K : PySem.W.Frag) : R2 := fun x y H Q => ∃ d ds, Dp K H x d ∧ Dp K H y (.tuple ds) ∧ SeqAt.shaped d = true ∧ SeqAt.shaped (.tuple ds) = true ∧ Q (.bl (ds.any fun z => PyData.eqv z d)) H
def rNotInT (K : PySem.W.Frag) : R2 := fun x y H Q => ∃ d ds, Dp K H x d ∧ Dp K H y (.tuple ds) ∧ SeqAt.shaped d = true ∧ SeqAt.shaped (.tuple ds) = true ∧ Q (.bl (!ds.any fun z => PyData.eqv z d)) H
theorem op_inT (hu : X.A.units + 65 < cLine) : OpR X (compareOp .In) (rInT X.K) := by
  intro pins s σ H x y v u Q I rx ry h
  obtain ⟨d, ds, hd, he, sd, se, q⟩ := h
  obtain ⟨as, r1⟩ := Dp.reads I d x v hd rx
  obtain ⟨bs, r2⟩ := Dp.reads I (.tuple ds) y u he ry
  exact SeqAt.in_tuple_reads r2 r1 (SeqAt.canLay_of_shaped se) (SeqAt.canLay_of_shaped sd) (room_in_shaped sd hu) ⟨.bl _, H, I, rfl, q⟩
theorem op_notInT (hu : X.A.units + 65 < cLine) : OpR X (compareOp .NotIn) (rNotInT X.K) := by
  intro pins s σ H x y v u Q I rx ry h
  obtain ⟨d, ds, hd, he, sd, se, q⟩ := h
  obtain ⟨as, r1⟩ := Dp.reads I d x v hd rx
  obtain ⟨bs, r2⟩ := Dp.reads I (.tuple ds) y u he ry
  exact SeqAt.notIn_tuple_reads r2 r1 (SeqAt.canLay_of_shaped se) (SeqAt.canLay_of_shaped sd) (room_in_shaped sd hu) ⟨.bl _, H, I, rfl, q⟩
theorem inT_core {σ : L2.St} {H : Hp} {Av : Addr → Prop} {dx dy : D} {x y : V} {P : Bool → Prop} (rx : RepB (gx X T) H Av dx x) (ry : RepB (gx X T) H Av dy y) (o : Out X T σ H (inTB dx dy) P) :
    ∃ d ds, Dp X.K H x d ∧ Dp X.K H y (.tuple ds) ∧ SeqAt.shaped d = true ∧ SeqAt.shaped (.tuple ds) = true ∧ P (ds.any fun z => PyData.eqv z d) := by
  cases dy with
  | tup ys =>
    have o : Out X T σ H (match toPy dx, toPys ys with
      | some p, some ps => if SeqAt.shaped p && SeqAt.shaped (.tuple ps) then Res.ok (ps.any fun z => PyData.eqv z p) else .bad
      | _, _ => .bad) P := by cases dx <;> exact o
    cases q1 : toPy dx with
    | none => rw [q1] at o; exact False.elim o
    | some p =>
      cases q2 : toPys ys with
      | none => rw [q1, q2] at o; exact False.elim o
      | some ps =>
        rw [q1, q2] at o
        have o : Out X T σ H (if (SeqAt.shaped p && SeqAt.shaped (.tuple ps)) = true then .ok (ps.any fun z => PyData.eqv z p) else .bad) P := o
        obtain ⟨hc, f⟩ := o.if
        rw [Bool.and_eq_true] at hc
        exact ⟨p, ps, toPy_dp (G := gx X T) dx rx q1, toPy_dp (G := gx X T) (.tup ys) ry (by rw [toPy, q2]), hc.1, hc.2, f⟩
  | _ => cases dx <;> exact False.elim o
theorem om_inT (hu : X.A.units + 65 < cLine) : OpM T X (compareOp .In) inTD := by
  refine ⟨_, op_inT hu, fun σ H Av dx dy x y Q hav rx ry o => ?_⟩
  obtain ⟨d, e, h1, h2, h3, h4, h5⟩ := inT_core rx ry o.bind
  exact ⟨d, e, h1, h2, h3, h4, h5 _ _ (Same.refl H) rfl⟩
theorem om_notinT (hu : X.A.units + 65 < cLine) : OpM T X (compareOp .NotIn) ninTD := by
  refine ⟨_, op_notInT hu, fun σ H Av dx dy x y Q hav rx ry o => ?_⟩
  obtain ⟨d, e, h1, h2, h3, h4, h5⟩ := inT_core rx ry o.bind
  exact ⟨d, e, h1, h2, h3, h4, h5 _ _ (Same.refl H) rfl⟩
end
/-! ### a tuple times a number -/
theorem tuple_mulW1 (l : Addr) (items : Array Value) (n : Nat) (dd : Option Addr) (sl : Array (Option Value)) (x : Int) (u : Tok) (c0 : (decide (x < -(2 ^ 63)) || decide (x ≥ 2 ^ 63)) = false) (c1 : (items.isEmpty || x == 1) = true) :
    Meets (Builtin.«tuple.__mul__» ⟨[.ref l, .int x u], []⟩) (fun _ R s => s.heap.get? l = some { cls := .type "tuple", dict := dd, data := .seq items n, slots := sl } ∧
      R (.ok (.ret (Value.ref l))) s) :=
  .of_wp fun prog w A R s h => by
    obtain ⟨hp, g, d, tk, os⟩ := s
    obtain ⟨hl, h⟩ := h
    have f1 := AutoSeq1.idx_int
    wp_walk using wpAny_loadPart' hl
    repeat (first
      | (refine wpAny_ite_false (decide_eq_false (by rw [c0]; exact Bool.false_ne_true)) ?_; wp_walk using wpAny_loadPart' hl)
      | (refine wpAny_ite_true (decide_eq_true c1) ?_; wp_walk using wpAny_loadPart' hl))
    exact ⟨_, rfl, h⟩
def rRepT1 (K : PySem.W.Frag) : R2 := fun x y H Q => ∃ l k xs, x = .ref l ∧ y = .int k ∧ SqT K H l xs ∧ k = 1 ∧ Q (.ref l) H
section
variable {X : Cx} {T : CT}
theorem op_repT1 : OpR X (binaryOp .Mult) (rRepT1 X.K) := by
  intro pins s σ H x y v u Q I rx ry h
  obtain ⟨l, k, xs, rfl, rfl, hT, rfl, q⟩ := h
  cases rx
  obtain ⟨t, rfl⟩ := ry
  obtain ⟨its, r, ⟨⟨cls, dd, data, sl⟩, ho, hc, n, hd⟩, hs⟩ := I.tuple hT
  simp only at hc hd
  subst hc hd
  have c0 : (decide ((1 : Int) < -(2 ^ 63)) || decide ((1 : Int) ≥ 2 ^ 63)) = false := by decide
  have c1 : (its.toArray.isEmpty || (1 : Int) == 1) = true := by simp
  refine wpAny_binaryOp_repeat_ref (T := "tuple") (U := "int") (by decide) ⟨_, ho, rfl⟩ (fun s' => typeIs_int s' 1 t) noFill_tuple_mul PySem.F.fills_int_mul PySem.F.slot_int_rmul repeat_tuple PySem.F.slot_int_index.lookup
    (call_meets PySem.F.slot_int_rmul (typeIs_int s 1 t) PySem.F.entry_int_rmul (PySem.F.args_int_rmul_2 _ _) (int_rmul_tuple 1 t l its.toArray n dd sl)
      ⟨ho, rfl, ⟨_, ho, rfl⟩, call_meets PySem.F.slot_tuple_mul ⟨_, ho, rfl⟩ PySem.F.entry_tuple_mul (PySem.F.args_tuple_mul_2 _ _) (tuple_mulW1 l its.toArray n dd sl 1 t c0 c1) ⟨ho, ?_⟩⟩)
  exact ⟨.ref l, H, I, rfl, q⟩
/-- a tuple times a number from 1 on -/
def repD : D → D → Res D
  | .tup a, .int k => if a ≠ [] ∧ 1 ≤ k ∧ k ≤ 1000 ∧ a.length ≤ 1000 then .ok (.tup (List.replicate k.toNat a).flatten) else .bad
  | _, _ => .bad
theorem om_repT : OpM T X (binaryOp .Mult) repD := by
  refine ⟨_, op_repT1.or op_repT, fun σ H Av dx dy x y Q hav rx ry o => ?_⟩
  cases dx <;> cases dy <;> try exact False.elim o
  rename_i ls k
  obtain ⟨⟨h0, h1, h2, h3⟩, f⟩ := o.if
  obtain ⟨a, vs, rfl, ha, rv⟩ := rx
  have ry : y = V.int k := ry
  subst ry
  by_cases hk : k = 1
  · subst hk
    refine .inl ⟨a, 1, vs, rfl, rfl, tup_sq ha, rfl, ?_⟩
    refine f _ _ (Same.refl H) ⟨a, vs, rfl, ha, ?_⟩
    have e : (List.replicate (Int.toNat 1) ls).flatten = ls := by simp
    rw [e]; exact rv
  · refine .inr ⟨a, k, vs, rfl, rfl, tup_sq ha, rv.ne_nil h0, by omega, h2, by rw [rv.length]; exact h3, fun p hp => ?_⟩
    have s := same_upd (o := .tup (List.replicate (Int.toNat k) vs).flatten) hp
    exact f _ _ s ⟨p, _, rfl, .inl ⟨upd_same, fun z => absurd hp (hav p z)⟩, (rv.same s).rep _⟩
end
end Cr
/-! Core, part 30: two new lists in a list, handed on and then changed; len(set(xs)) with doubles. -/
namespace Cr
open PySem PySem.Spec PyProof.Rows L2
/-! no list within -/
mutual
def noL : D → Bool
  | .lst _ => false
  | .scr _ => false
  | .tup ds => noLs ds
  | .obj _ ds => noLs ds
  | _ => true
def noLs : List D → Bool
  | [] => true
  | d :: ds => noL d && noLs ds
end
section
variable {G : Gx} {H : Hp} {A : Addr → Prop}
mutual
theorem rep_noLp {p : Addr} {ws ws' : List V} (hp : H p = some (.lst ws)) : ∀ (d : D) {v : V}, Rep G H A d v → noL d = true → Rep G (upd H p (.lst ws')) A d v
  | .non, v, h, _ => h
  | .bl b, v, h, _ => h
  | .int i, v, h, _ => h
  | .str x, v, h, _ => h
  | .tup ds, v, h, q => by
    obtain ⟨a, vs, e, h1, h2⟩ := h
    refine ⟨a, vs, e, ?_, repL_noLp hp ds h2 q⟩
    rcases h1 with ⟨h1, n⟩ | h1
    · exact .inl ⟨by rw [upd_ne fun z => by rw [z, hp] at h1; cases h1]; exact h1, n⟩
    · exact .inr h1
  | .obj c ds, v, h, q => by
    obtain ⟨a, dx, vs, e, ⟨h1, n⟩, hl', h2⟩ := h
    exact ⟨a, dx, vs, e, ⟨by rw [upd_ne fun z => by rw [z, hp] at h1; cases h1]; exact h1, n⟩, hl', repL_noLp hp ds h2 q⟩
  | .lst ds, v, h, q => by cases q
  | .scr ns, v, h, q => by cases q
theorem repL_noLp {p : Addr} {ws ws' : List V} (hp : H p = some (.lst ws)) : ∀ (ds : List D) {vs : List V}, RepL G H A ds vs → noLs ds = true → RepL G (upd H p (.lst ws')) A ds vs
  | [], vs, h, _ => h
  | d :: ds, vs, h, q => by
    obtain ⟨v, vr, e, h1, h2⟩ := h
    have q : (noL d && noLs ds) = true := q
    rw [Bool.and_eq_true] at q
    exact ⟨v, vr, e, rep_noLp hp d h1 q.1, repL_noLp hp ds h2 q.2⟩
end
end
/-- the lists in slot h go their own ways; nothing of them lies in slot r -/
def mHEnd (h r : Nat) : Env → Flow := fun ρ => match ρ[h]?, ρ[r]? with
  | some (.v (.d (.lst [.lst xs, .lst ts]))), some (.v (.d d)) => if noL d = true ∧ xs.length < sizeLine ∧ ts.length < sizeLine then .nx (ρ.set h .no) else .bad
  | _, _ => .bad
/-- one after the other -/
def sqF (f : Flow) (k : Env → Flow) : Flow := match f with
  | .nx ρ' => k ρ'
  | f => f
theorem sqF_bind {α : Type} (r : Res α) (ρ : Env) (f : α → Flow) (k : Env → Flow) : sqF (bindF r ρ f) k = bindF r ρ fun a => sqF (f a) k := by
  cases r <;> rfl
theorem mSeq_sq {m m' : Env → Flow} {ρ : Env} : mSeq m m' ρ = sqF (m ρ) m' := by
  unfold mSeq sqF
  cases m ρ <;> rfl
theorem same_new {H H1 : Hp} {p : Addr} {o : HO} (s : Same H H1) (np : H p = none) : Same H (upd H1 p o) := fun b u e => by
  rw [upd_ne (ne_of_none e np)]; exact s b u e
section
variable {T : CT} {Fb : Gh} {X : Cx} {e1 e2 em e3 e4 : Expr} {rest : List Stmt} {m1 m2 : Env → Res (List D)} {mm m3 m4 : Env → Res D} {m' : Env → Flow} {x y : Str}
/-- h = [e1, e2]; r = em; h[0].append(e3); h[1].append(e4): e1, e2 new lists, em holds no list -/
theorem mss_hand (i j : Nat) {ps1 ps2 pl p1 p2 q3 a3 c3 k3 n3 q4 a4 c4 k4 n4 p3 p4 : Pos} {jx jy : Nat} (hN : X.N.Nodup) (h1 : MF T Fb X e1 m1) (h2 : MF T Fb X e2 m2) (hm : ME T Fb X em mm) (h3 : ME T Fb X e3 m3) (h4 : ME T Fb X e4 m4)
    (hr : MSs T Fb X rest m')
    (hpe3 : ∀ {r : V → List V → Hp → VK → Prop} {to : TE} {t : TA}, MtR X "list.append" r → PE X (.Subscript (.Name x n3) (.Constant (.int 0) jx k3) q3) to → PA X [e3] t → PE X (.Call (.Attribute (.Subscript (.Name x n3) (.Constant (.int 0) jx k3) q3) "append" a3) [e3] [] c3) (tBM X.K "list" r to t))
    (hpe4 : ∀ {r : V → List V → Hp → VK → Prop} {to : TE} {t : TA}, MtR X "list.append" r → PE X (.Subscript (.Name x n4) (.Constant (.int 1) jy k4) q4) to → PA X [e4] t → PE X (.Call (.Attribute (.Subscript (.Name x n4) (.Constant (.int 1) jy k4) q4) "append" a4) [e4] [] c4) (tBM X.K "list" r to t))
    (hij : i ≠ j := by decide) (hi : X.N[i]? = some x := by rfl) (hj : X.N[j]? = some y := by rfl) (hx : Loc X.env.scope x := by first | exact Or.inl rfl | exact Or.inr rfl) (hy : Loc X.env.scope y := by first | exact Or.inl rfl | exact Or.inr rfl)
    (hs1 : swapsWith (.List [e1, e2] pl) (some (.Name x p1)) ps1.line X.env = pure false := by rfl) (hs2 : swapsWith em (some (.Name y p2)) ps2.line X.env = pure false := by rfl)
    (hs3 : swapsWith (.Call (.Attribute (.Subscript (.Name x n3) (.Constant (.int 0) jx k3) q3) "append" a3) [e3] [] c3) none p3.line X.env = pure false := by rfl)
    (hs4 : swapsWith (.Call (.Attribute (.Subscript (.Name x n4) (.Constant (.int 1) jy k4) q4) "append" a4) [e4] [] c4) none p4.line X.env = pure false := by rfl)
    (hf1 : X.fn x = true ∨ X.env.scope.names.lookup x = some .local := by first | exact .inl rfl | exact .inr rfl | assumption) (hf2 : X.fn y = true ∨ X.env.scope.names.lookup y = some .local := by first | exact .inl rfl | exact .inr rfl | assumption)
    (hv : Vis X.env.scope x := by first | exact Or.inl rfl | exact Or.inr (Or.inl rfl) | exact Or.inr (Or.inr rfl)) (hd : (x == ("__debug__" : Str)) = false := by decide) (hcd : (x == ("__classdict__" : Str)) = false := by decide)
    (na1 : starEach [e1, e2] X.env = (false, eval e1 X.env) :: starEach [e2] X.env := by rfl) (na2 : starEach [e2] X.env = (false, eval e2 X.env) :: starEach [] X.env := by rfl)
    (na3 : starEach [e3] X.env = (false, eval e3 X.env) :: starEach [] X.env := by rfl) (na4 : starEach [e4] X.env = (false, eval e4 X.env) :: starEach [] X.env := by rfl) :
    MSs T Fb X (.Assign [.Name x p1] (.List [e1, e2] pl) ps1 :: .Assign [.Name y p2] em ps2 :: .Expr (.Call (.Attribute (.Subscript (.Name x n3) (.Constant (.int 0) jx k3) q3) "append" a3) [e3] [] c3) p3 ::
      .Expr (.Call (.Attribute (.Subscript (.Name x n4) (.Constant (.int 1) jy k4) q4) "append" a4) [e4] [] c4) p4 :: rest)
      (mSeq (mSet i (toE (mLst (mCons (toE m1) (mCons (toE m2) mNil))))) (mSeq (mSet j mm) (mSeq (mHEnd i j) (mSeq (mEx m3) (mSeq (mEx m4) m'))))) := by
  refine ⟨fun σ H F ρ D S o => ?_⟩
  refine (pss_cons (ps_set hN hi hx (pe_lst (pa_cons pe_tw (pa_cons pe_tw pa_nil na2) na1)) hs1 hf1) (pss_cons (ps_set hN hj hy pe_tw hs2 hf2)
    (pss_cons (ps_expr (hpe3 mt_append (pe_ix ix_seq (pe_var hi hv hd hcd) pe_int (fun _ _ => rfl)) (pa_cons pe_tw pa_nil na3)) hs3)
    (pss_cons (ps_expr (hpe4 mt_append (pe_ix ix_seq (pe_var hi hv hd hcd) pe_int (fun _ _ => rfl)) (pa_cons pe_tw pa_nil na4)) hs4) pss_tw)))).tw ?_
  generalize hM : mSeq (mSet j mm) (mSeq (mHEnd i j) (mSeq (mEx m3) (mSeq (mEx m4) m'))) = M at o
  have o : OutS X T Fb D H F (bindF (m1 ρ) ρ fun xs => bindF (m2 ρ) ρ fun ts => sqF (put i (.v (.d (.lst [.lst xs, .lst ts]))) ρ) M) := by
    refine Eq.mp (congrArg (OutS X T Fb D H F) ?_) o
    rw [mSeq_sq]
    simp only [mSet, toE, mLst, mCons, mNil]
    cases m1 ρ with
    | err => rfl
    | bad => rfl
    | ok xs =>
      cases m2 ρ with
      | err => rfl
      | bad => rfl
      | ok ts => rfl
  refine h1.run σ H F ρ _ S ((OutS.toOut S o).imp fun xs e1 o1 p1 vs1 H1 np1 s1 hp1 r1 => ?_)
  have S1 := S.same s1
  refine h2.run σ H1 F ρ _ S1 ((OutS.toOut S1 (o1.same s1)).imp fun ts e2 _ p2 vs2 H2 np2 s2 hp2 r2 => ?_)
  rw [e2] at o1
  have o1 : OutS X T Fb D H F (sqF (put i (.v (.d (.lst [.lst xs, .lst ts]))) ρ) M) := o1
  refine ⟨by show 2 ≤ sizeLine; decide, fun p hp => ?_⟩
  have hk : okS ρ i = true := by
    cases q : okS ρ i with
    | true => rfl
    | false => rw [show put i (.v (.d (.lst [.lst xs, .lst ts]))) ρ = .bad from if_neg (by rw [q]; exact fun z => by cases z)] at o1; exact False.elim o1
  rw [show put i (.v (.d (.lst [.lst xs, .lst ts]))) ρ = .nx (ρ.set i (.v (.d (.lst [.lst xs, .lst ts])))) from if_pos hk] at o1
  have o1 : OutS X T Fb D H F (M (ρ.set i (.v (.d (.lst [.lst xs, .lst ts]))))) := o1
  have s02 := s1.trans s2
  have s3 : Same H2 (upd H2 p (.lst [.ref p1, .ref p2])) := same_upd hp
  have s03 := s02.trans s3
  have nA1 := avo_no S.av np1
  have nA2 := avo_no S1.av np2
  have nA3 := avo_no (S.same s02).av hp
  have g1 := s2 _ _ hp1
  have g1 : H2 p1 = some (.lst vs1) := g1
  have n12 : p1 ≠ p2 := fun z => by rw [z, np2] at hp1; cases hp1
  have n13 : p1 ≠ p := fun z => by rw [z, hp] at g1; cases g1
  have n23 : p2 ≠ p := fun z => by rw [z, hp] at hp2; cases hp2
  have k1 : (upd H2 p (.lst [.ref p1, .ref p2])) p1 = some (.lst vs1) := by rw [upd_ne n13]; exact g1
  have k2 : (upd H2 p (.lst [.ref p1, .ref p2])) p2 = some (.lst vs2) := by rw [upd_ne n23]; exact hp2
  have rp : Rep (gx X T) (upd H2 p (.lst [.ref p1, .ref p2])) (avo Fb F) (.lst [.lst xs, .lst ts]) (.ref p) :=
    ⟨p, _, rfl, ⟨upd_same, nA3⟩, RepL.cons ⟨p1, vs1, rfl, ⟨k1, nA1⟩, (RepL.mono kept_less xs r1).same (s2.trans s3)⟩ (RepL.cons ⟨p2, vs2, rfl, ⟨k2, nA2⟩, (RepL.mono kept_less ts r2).same s3⟩ rfl)⟩
  have S3 := (S.same s03).setD hk rp
  rw [← hM] at o1
  have o1 : OutS X T Fb D H F (bindF (mm (ρ.set i (.v (.d (.lst [.lst xs, .lst ts]))))) (ρ.set i (.v (.d (.lst [.lst xs, .lst ts])))) fun d => sqF (put j (.v (.d d)) (ρ.set i (.v (.d (.lst [.lst xs, .lst ts]))))) (mSeq (mHEnd i j) (mSeq (mEx m3) (mSeq (mEx m4) m')))) := by
    refine Eq.mp (congrArg (OutS X T Fb D H F) ?_) o1
    exact sqF_bind _ _ _ _
  generalize hX : (Sl.v (Fd.d (.lst [.lst xs, .lst ts]))) = U at o1 S3
  refine hm.run _ _ F _ _ S3 ((OutS.toOut S3 (o1.same s03)).imp fun d e3 _ v H4 s4 r4 => ?_)
  rw [e3] at o1
  have o1 : OutS X T Fb D H F (sqF (put j (.v (.d d)) (ρ.set i U)) (mSeq (mHEnd i j) (mSeq (mEx m3) (mSeq (mEx m4) m')))) := o1
  have hkj : okS (ρ.set i U) j = true := by
    cases q : okS (ρ.set i U) j with
    | true => rfl
    | false => rw [show put j (.v (.d d)) (ρ.set i U) = .bad from if_neg (by rw [q]; exact fun z => by cases z)] at o1; exact False.elim o1
  rw [show put j (.v (.d d)) (ρ.set i U) = .nx ((ρ.set i U).set j (.v (.d d))) from if_pos hkj] at o1
  have o1 : OutS X T Fb D H F (sqF (mHEnd i j ((ρ.set i U).set j (.v (.d d)))) (mSeq (mEx m3) (mSeq (mEx m4) m'))) := o1
  have ei : ((ρ.set i U).set j (.v (.d d)))[i]? = some U := by
    rw [List.getElem?_set_ne (Ne.symm hij), List.getElem?_set_self (okS_lt hk)]
  have ej : ((ρ.set i U).set j (.v (.d d)))[j]? = some (.v (.d d)) := List.getElem?_set_self (okS_lt hkj)
  have eρ : ((ρ.set i U).set j (.v (.d d))).set i .no = (ρ.set i .no).set j (.v (.d d)) := by
    rw [List.set_comm _ _ hij, List.set_set, List.set_comm _ _ (Ne.symm hij)]
  unfold mHEnd at o1
  rw [ei, ej, ← hX] at o1
  have o1 : OutS X T Fb D H F (sqF (if noL d = true ∧ xs.length < sizeLine ∧ ts.length < sizeLine then .nx (((ρ.set i (.v (.d (.lst [.lst xs, .lst ts])))).set j (.v (.d d))).set i .no) else .bad) (mSeq (mEx m3) (mSeq (mEx m4) m'))) := o1
  rw [hX, eρ] at o1
  by_cases hc : noL d = true ∧ xs.length < sizeLine ∧ ts.length < sizeLine
  case neg => rw [if_neg hc] at o1; exact False.elim o1
  rw [if_pos hc] at o1
  obtain ⟨hn, hz1, hz2⟩ := hc
  have hkj' : okS (ρ.set i .no) j = true := by
    unfold okS at hkj ⊢
    rw [List.getElem?_set_ne hij] at hkj ⊢
    exact hkj
  have fin : ∀ {Hf : Hp}, Same H Hf → Rep (gx X T) Hf (avo Fb F) d v → StR (gx X T) Fb Hf ((σ.set i (some (.ref p))).set j (some v)) ((ρ.set i .no).set j (.v (.d d))) F := fun {Hf} s r =>
    ((S.same s).setN (okS_lt hk) (.inr (okS_ne hk)) (t := .no) (o' := some (.ref p)) rfl).setD hkj' r
  have eσ : ((σ.set i (some (V.ref p))).set j (some v))[i]? = some (some (V.ref p)) := by
    rw [List.getElem?_set_ne (Ne.symm hij), List.getElem?_set_self (by rw [S.length]; exact okS_lt hk)]
  generalize ((ρ.set i .no).set j (.v (.d d))) = ρ3 at fin o1
  have o1 : OutS X T Fb D H F (bindF (m3 ρ3) ρ3 fun _ => bindF (m4 ρ3) ρ3 fun _ => m' ρ3) := by
    refine Eq.mp (congrArg (OutS X T Fb D H F) ?_) o1
    show sqF (bindF (m3 ρ3) ρ3 _) _ = _
    cases m3 ρ3 with
    | err => rfl
    | bad => rfl
    | ok x3 =>
      show sqF (bindF (m4 ρ3) ρ3 _) _ = _
      cases m4 ρ3 <;> rfl
  have s04 := s03.trans s4
  have S4 := fin s04 r4
  refine ⟨.ref p, eσ, ?_⟩
  have hq4 : H4 p = some (.lst [.ref p1, .ref p2]) := s4 _ _ upd_same
  have hq1 : H4 p1 = some (.lst vs1) := s4 _ _ k1
  have hq2 : H4 p2 = some (.lst vs2) := s4 _ _ k2
  refine .inl ⟨p, [.ref p1, .ref p2], 0, .ref p1, rfl, rfl, SqL.of hq4, rfl, ?_⟩
  refine ⟨.inl ⟨rfl, vs1, SqL.of hq1⟩, ?_⟩
  refine h3.run _ H4 F ρ3 _ S4 ((OutS.toOut S4 (o1.same s04)).imp fun d3 e4 _ v3 H5 s5 r5 => ?_)
  rw [e4] at o1
  have o1 : OutS X T Fb D H F (bindF (m4 ρ3) ρ3 fun _ => m' ρ3) := o1
  have t1 : H5 p1 = some (.lst vs1) := s5 _ _ hq1
  have t2 : H5 p2 = some (.lst vs2) := s5 _ _ hq2
  have t3 : H5 p = some (.lst [.ref p1, .ref p2]) := s5 _ _ hq4
  refine ⟨p1, vs1, v3, rfl, rfl, t1, by rw [r1.length]; exact hz1, ?_⟩
  have s06 : Same H (upd H5 p1 (.lst (vs1 ++ [v3]))) := same_new (s04.trans s5) np1
  have r6 := rep_noLp (ws' := vs1 ++ [v3]) t1 d (r4.same s5) hn
  have S6 := fin s06 r6
  have u2 : upd H5 p1 (.lst (vs1 ++ [v3])) p2 = some (.lst vs2) := by rw [upd_ne n12.symm]; exact t2
  have u3 : upd H5 p1 (.lst (vs1 ++ [v3])) p = some (.lst [.ref p1, .ref p2]) := by rw [upd_ne n13.symm]; exact t3
  generalize upd H5 p1 (.lst (vs1 ++ [v3])) = H6 at s06 r6 S6 u2 u3
  refine ⟨.ref p, eσ, ?_⟩
  refine .inl ⟨p, [.ref p1, .ref p2], 1, .ref p2, rfl, rfl, SqL.of u3, rfl, ?_⟩
  refine ⟨.inl ⟨rfl, vs2, SqL.of u2⟩, ?_⟩
  refine h4.run _ H6 F ρ3 _ S6 ((OutS.toOut S6 (o1.same s06)).imp fun d4 e5 _ v4 H7 s7 r7 => ?_)
  rw [e5] at o1
  have o1 : OutS X T Fb D H F (m' ρ3) := o1
  have w2 : H7 p2 = some (.lst vs2) := s7 _ _ u2
  refine ⟨p2, vs2, v4, rfl, rfl, w2, by rw [r2.length]; exact hz2, ?_⟩
  have s08 : Same H (upd H7 p2 (.lst (vs2 ++ [v4]))) := same_new (s06.trans s7) (s1.free np2)
  exact hr.run _ _ F ρ3 D (fin s08 (rep_noLp w2 d (r6.same s7) hn)) (o1.same s08)
end
/-! ### len(set(xs)) -/
theorem firstMet_len (f : Nat → Int) : ∀ n, (firstMet f n).length ≤ n
  | 0 => Nat.le_refl _
  | n + 1 => by
    have ih := firstMet_len f n
    rw [firstMet_succ]
    unfold step_dedup
    split
    · omega
    · rw [List.length_append, List.length_singleton]; omega
def tLenSetN (K : PySem.W.Frag) (ta : TE) : TE := fun σ H Q => ta σ H fun x H1 => ∃ (l : Addr) (ns : List Int), x = .ref l ∧ SqL K H1 l (ns.map V.int) ∧ ns.length ≤ 4000 ∧ Q (.int ((firstMet (fun i => ns.getD i 0) ns.length).length : Nat)) H1
theorem pe_lenSetN {X : Cx} {a : Expr} {ta : TE} {p p2 q pos : Pos} (hg : Gl X "len") (hm : X.mg "len" = none) (hg2 : Gl X "set") (hm2 : X.mg "set" = none) (ha : PE X a ta) (hc : X.calm = true := by rfl)
    (na : starEach [a] X.env = (false, eval a X.env) :: starEach [] X.env := by rfl) : PE X (.Call (.Name "len" p) [.Call (.Name "set" p2) [a] [] q] [] pos) (tLenSetN X.K ta) := by
  refine ⟨fun pins s σ H Q I h => ?_⟩
  refine Call_ (ld_blt I hg hm boot_len ?_)
  refine PyProof.Rows.callWith_builtin1 (PyProof.Rows.args_cons ?_ rfl) rfl rfl
  refine Call_ (ld_blt I hg2 hm2 boot_set ?_)
  refine PyProof.Rows.callWith_type1 (PyProof.Rows.args_cons (thn (ha.run pins s σ H _ I h) fun v s1 ⟨x, H1, I1, r1, q1⟩ => PyProof.Rows.args_nil ?_) na) na rfl
  obtain ⟨l, ns, rfl, hq, hl, q1⟩ := q1
  cases r1
  obtain ⟨its, r, pl, hz⟩ := I1.list hq
  have hlen : its.toArray.size = ns.length := by rw [List.size_toArray, ← r.length, List.length_map]
  refine call_set_list (I1.ok.hd hc) pl.isList (by simpa using RZ.intsAre_vals r) (by rw [hlen]; unfold scanBound; omega) fun h' tk hS hk => ?_
  refine PyProof.Rows.args_nil ?_
  rw [hlen] at hS
  obtain ⟨o, es, ep, t, ho, hex, hd, _, _, _, hf, hn⟩ := hS
  have I2 : Inv X pins σ H1 { s1 with heap := h', toks := tk } := I1.kept fun b o e => hk b o (Heap.lt_size e) e
  have hb := firstMet_len (fun i => ns.getD i 0) ns.length
  exact call_len_set ho hex hd hf (by rw [hn] <;> omega) ⟨.int _, H1, I2.tok _, ⟨_, by rw [hn]⟩, q1⟩
def lenSetN : List D → Res D
  | [.lst xs] => match intsOf xs with
    | some ns => if ns.length ≤ 4000 then .ok (.int ((firstMet (fun i => ns.getD i 0) ns.length).length : Nat)) else .bad
    | none => .bad
  | _ => .bad
section
variable {T : CT} {Fb : Gh} {X : Cx} {a : Expr} {p p2 q pos : Pos} {mr : Env → Res (List D)}
theorem me_lenSetN {ma : Env → Res D} (hm : X.mg "len" = none) (hm2 : X.mg "set" = none) (ha : MB T Fb X a ma) (hc : X.calm = true := by rfl) (hg : Gl X "len" := by rfl) (hg2 : Gl X "set" := by rfl)
    (na : starEach [a] X.env = (false, eval a X.env) :: starEach [] X.env := by rfl) : ME T Fb X (.Call (.Name "len" p) [.Call (.Name "set" p2) [a] [] q] [] pos) (mArg lenSetN (mCons ma mNil)) := by
  refine ⟨fun σ H F ρ Q S o => (pe_lenSetN hg hm hg2 hm2 pe_tw hc na).tw ?_⟩
  refine ha.run σ H F ρ _ S (o.bind.bind.imp fun y _ o1 v H1 s1 r1 => ?_)
  cases y with
  | lst xs =>
    obtain ⟨l, vs, rfl, h1, h2⟩ := r1
    have o1 : Out X T σ H (match intsOf xs with
      | some ns => if ns.length ≤ 4000 then (.ok (.int ((firstMet (fun i => ns.getD i 0) ns.length).length : Nat)) : Res D) else .bad
      | none => .bad) _ := o1
    cases qi : intsOf xs with
    | none => rw [qi] at o1; exact False.elim o1
    | some ns =>
      rw [qi] at o1
      have o1 : Out X T σ H (if ns.length ≤ 4000 then (.ok (.int ((firstMet (fun i => ns.getD i 0) ns.length).length : Nat)) : Res D) else .bad) _ := o1
      have hv := ints_rep h2 qi
      subst hv
      obtain ⟨n2, f⟩ := o1.if
      exact ⟨l, ns, rfl, SqL.of h1, n2, f _ _ s1 rfl⟩
  | _ => exact False.elim o1
end
/-! ### list(range(n)) -/
def rngL : List D → Res (List D)
  | [.int n] => if -(2 ^ 62) ≤ n ∧ n ≤ 16777216 then .ok (rangeD 0 1 n.toNat) else .bad
  | _ => .bad
theorem rg_rep {G : Gx} {H : Hp} {A : Addr → Prop} (n : Int) : RepL G H A (rangeD 0 1 n.toNat) (rgV 0 n) := by
  have go : ∀ l : List Nat, RepL G H A (l.map fun (i : Nat) => D.int (0 + (i : Int) * 1)) (l.map fun i => V.int (0 + (i : Nat))) := fun l => by
    induction l with
    | nil => rfl
    | cons a l ih => exact ⟨_, _, rfl, (by show V.int _ = V.int _; rw [Int.mul_one]), ih⟩
  unfold rangeD rgV
  rw [show (n - 0).toNat = n.toNat from by rw [Int.sub_zero]]
  exact go _
section
variable {T : CT} {Fb : Gh} {X : Cx} {a : Expr} {p p2 q pos : Pos} {ma : Env → Res D}
theorem mf_listRg (hm : X.mg "list" = none) (hm2 : X.mg "range" = none) (ha : ME T Fb X a ma) (hc : X.calm = true := by rfl) (hg : Gl X "list" := by rfl) (hg2 : Gl X "range" := by rfl)
    (na : starEach [a] X.env = (false, eval a X.env) :: starEach [] X.env := by rfl) (na2 : starEach [.Call (.Name "range" p2) [a] [] q] X.env = (false, eval (.Call (.Name "range" p2) [a] [] q) X.env) :: starEach [] X.env := by rfl) :
    MF T Fb X (.Call (.Name "list" p) [.Call (.Name "range" p2) [a] [] q] [] pos) (mArg rngL (mCons ma mNil)) := by
  refine ⟨fun σ H F ρ Q S o => (pe_listRg hc hg hm (prg_1 hg2 hm2 pe_tw na) na2).tw ?_⟩
  refine ha.run σ H F ρ _ S (o.bind.bind.imp fun y _ o1 v H1 s1 r1 => ?_)
  cases y with
  | int n =>
    have r1 : v = V.int n := r1
    subst r1
    obtain ⟨⟨h1, h2⟩, f⟩ := Out.if (show Out X T σ H (if -(2 ^ 62) ≤ n ∧ n ≤ 16777216 then Res.ok (rangeD 0 1 n.toNat) else .bad) _ from o1)
    refine ⟨n, rfl, ⟨by decide, by decide, h1, by omega, by omega⟩, fun q hq => f q _ _ (s1.free hq) (s1.trans (same_upd hq)) upd_same (rg_rep n)⟩
  | _ => exact False.elim o1
end
end Cr
/-! plain lemmas over the mirrors' words -/
namespace Cr
open PySem L2
theorem mulD_r (a b : Int) (h : -18446744073709551616 < b ∧ b < 18446744073709551616) : mulD (.int a) (.int b) = .ok (.int (a * b)) := by
  have : mulOk a b := .inl (.inr ⟨by have := h.1; omega, by have := h.2; omega⟩)
  unfold mulD
  exact if_pos this
theorem mulD_l (a b : Int) (h : -18446744073709551616 < a ∧ a < 18446744073709551616) : mulD (.int a) (.int b) = .ok (.int (a * b)) := by
  have : mulOk a b := .inl (.inl ⟨by have := h.1; omega, by have := h.2; omega⟩)
  unfold mulD
  exact if_pos this
theorem modD_p (a b : Int) (h : 0 < b) : modD (.int a) (.int b) = .ok (.int (a % b)) := if_pos h
theorem fdivD_p (a b : Int) (h : 0 < b ∧ b < 18446744073709551616) : fdivD (.int a) (.int b) = .ok (.int (a / b)) := by
  have e : divOk a b := by
    refine ⟨h.1, ?_⟩
    have : b.natAbs < 2 ^ 64 := by omega
    have h0 : b.natAbs ≠ 0 := by omega
    have := (Nat.log2_lt h0).mpr this
    omega
  exact if_pos e
theorem powD_p (a b : Int) (h : 0 ≤ b ∧ b ≤ 1000000) (h2 : a.natAbs < 18446744073709551616) : powD (.int a) (.int b) = .ok (.int (a ^ b.toNat)) := by
  have e : powOk a b := ⟨h.1, h.2, by omega⟩
  exact if_pos e
theorem addD_i (a b : Int) : addD (.int a) (.int b) = .ok (.int (a + b)) := rfl
theorem subD_i (a b : Int) : subD (.int a) (.int b) = .ok (.int (a - b)) := rfl
theorem tru_bl (b : Bool) : tru (.bl b) = .ok b := rfl
theorem mTst_bl {m : Env → Res D} {ρ : Env} {b : Bool} (h : m ρ = .ok (.bl b)) : mTst m ρ = .ok b := by unfold mTst; rw [h]; rfl
/-! statements -/
theorem seq_nx {m m' : Env → Flow} {ρ ρ' : Env} (h : m ρ = .nx ρ') : mSeq m m' ρ = m' ρ' := by unfold mSeq; rw [h]
theorem seq_rt {m m' : Env → Flow} {ρ ρ' : Env} {d : D} (h : m ρ = .rt d ρ') : mSeq m m' ρ = .rt d ρ' := by unfold mSeq; rw [h]
theorem seq_er {m m' : Env → Flow} {ρ ρ' : Env} {x : Exc} (h : m ρ = .er x ρ') : mSeq m m' ρ = .er x ρ' := by unfold mSeq; rw [h]
theorem set_ok {m : Env → Res D} {ρ : Env} {d : D} {i : Nat} (h : m ρ = .ok d) (k : okS ρ i = true) : mSet i m ρ = .nx (ρ.set i (.v (.d d))) := by unfold mSet; rw [h]; unfold put; exact if_pos k
theorem setO_ok {m : Env → Res (List D)} {ρ : Env} {d : List D} {i : Nat} (h : m ρ = .ok d) (k : okS ρ i = true) : mSetO i m ρ = .nx (ρ.set i (.v (.ol d))) := by unfold mSetO; rw [h]; unfold put; exact if_pos k
theorem ret_ok {m : Env → Res D} {ρ : Env} {d : D} (h : m ρ = .ok d) : mRet m ρ = .rt d ρ := by unfold mRet; rw [h]; rfl
theorem if_t {t : Env → Res Bool} {m m' : Env → Flow} {ρ : Env} (h : t ρ = .ok true) : mIfS t m m' ρ = m ρ := by unfold mIfS; rw [h]; rfl
theorem if_f {t : Env → Res Bool} {m m' : Env → Flow} {ρ : Env} (h : t ρ = .ok false) : mIfS t m m' ρ = m' ρ := by unfold mIfS; rw [h]; rfl
theorem seq_if_f {t : Env → Res Bool} {m m' : Env → Flow} {ρ : Env} (h : t ρ = .ok false) : mSeq (mIfS t m mEnd) m' ρ = m' ρ := seq_nx (if_f h)
theorem seq_if_t {t : Env → Res Bool} {m m1 m' : Env → Flow} {ρ : Env} (h : t ρ = .ok true) : mSeq (mIfS t m m1) m' ρ = mSeq m m' ρ := by unfold mSeq; rw [if_t h]
theorem runD_rt {l : Nat} {m : Env → Flow} {ds : List D} {d : D} {ρ : Env} (h : m (startE l ds) = .rt d ρ) : runD l m ds = .ok d := by unfold runD; rw [h]
theorem for_ok {mi : Env → Res (List D)} {g : D → Env → Option Env} {mb : Env → Flow} {ρ : Env} {xs : List D} (h : mi ρ = .ok xs) : mFor mi g mb ρ = forL g mb xs ρ := by unfold mFor; rw [h]; rfl
theorem forL_cons {g : D → Env → Option Env} {mb : Env → Flow} {ρ ρ1 ρ2 : Env} {x : D} {xs : List D} (h : g x ρ = some ρ1) (h2 : mb ρ1 = .nx ρ2) : forL g mb (x :: xs) ρ = forL g mb xs ρ2 := by
  show (match g x ρ with
    | none => Flow.bad
    | some ρ1 => match mb ρ1 with
      | .nx ρ2 => forL g mb xs ρ2
      | f => f) = _
  rw [h]
  show (match mb ρ1 with
      | .nx ρ2 => forL g mb xs ρ2
      | f => f) = _
  rw [h2]
theorem rangeD_len (lo c : Int) (n : Nat) : (rangeD lo c n).length = n := by unfold rangeD; simp
/-- a loop with an invariant: it goes through -/
theorem forL_inv (I : Nat → Env → Prop) {g : D → Env → Option Env} {mb : Env → Flow} : ∀ (xs : List D) (k : Nat) (ρ : Env), I k ρ →
    (∀ j ρ d, I (k + j) ρ → xs[j]? = some d → ∃ ρ1 ρ2, g d ρ = some ρ1 ∧ mb ρ1 = .nx ρ2 ∧ I (k + j + 1) ρ2) → ∃ ρ', forL g mb xs ρ = .nx ρ' ∧ I (k + xs.length) ρ'
  | [], k, ρ, h, _ => ⟨ρ, rfl, h⟩
  | x :: xs, k, ρ, h, st => by
    obtain ⟨ρ1, ρ2, e1, e2, h2⟩ := st 0 ρ x h rfl
    rw [forL_cons e1 e2]
    obtain ⟨ρ', e, h3⟩ := forL_inv I xs (k + 1) ρ2 h2 fun j ρ d hI hd => by
      have := st (j + 1) ρ d (by have e : k + (j + 1) = k + 1 + j := by omega
                                 rw [e]; exact hI) (by simpa using hd)
      have e : k + (j + 1) + 1 = k + 1 + j + 1 := by omega
      rw [e] at this
      exact this
    refine ⟨ρ', e, ?_⟩
    have e : k + (x :: xs).length = k + 1 + xs.length := by simp; omega
    rw [e]; exact h3
theorem rangeD_get {lo c : Int} {n j : Nat} {d : D} (h : (rangeD lo c n)[j]? = some d) : j < n ∧ d = .int (lo + j * c) := by
  unfold rangeD at h
  rw [List.getElem?_map] at h
  cases q : (List.range n)[j]? with
  | none => rw [q] at h; cases h
  | some i =>
    rw [q] at h
    obtain ⟨hl, e⟩ := List.getElem?_eq_some_iff.mp q
    rw [List.length_range] at hl
    rw [List.getElem_range] at e
    subst e
    exact ⟨hl, (Option.some.inj h).symm⟩
/-! comprehensions: every item gives a value -/
theorem compL_map {g : D → Env → Option Env} {mt : Env → Res Bool} {me : Env → Res D} {ρ : Env} (f : D → D) : ∀ (xs : List D), (∀ x ∈ xs, ∃ ρ1, g x ρ = some ρ1 ∧ mt ρ1 = .ok true ∧ me ρ1 = .ok (f x)) → compL g mt me ρ xs = .ok (xs.map f)
  | [], _ => rfl
  | x :: xs, h => by
    obtain ⟨ρ1, e1, e2, e3⟩ := h x (List.mem_cons_self ..)
    unfold compL
    rw [e1]
    show (nerr (mt ρ1) >>= _) = _
    rw [e2]
    show (nerr (me ρ1) >>= _) = _
    rw [e3]
    show (compL g mt me ρ xs >>= _) = _
    rw [compL_map f xs fun y hy => h y (List.mem_cons_of_mem _ hy)]
    rfl
theorem comp_map {vs : List Nat} {mi : Env → Res (List D)} {g : D → Env → Option Env} {mt : Env → Res Bool} {me : Env → Res D} {ρ : Env} {xs : List D} (f : D → D) (hi : mi ρ = .ok xs) (hl : xs.length ≤ sizeLine) (h : ∀ x ∈ xs, ∃ ρ1, g x (wipeE ρ vs) = some ρ1 ∧ mt ρ1 = .ok true ∧ me ρ1 = .ok (f x)) : mComp vs mi g mt me ρ = .ok (xs.map f) := by
  unfold mComp
  rw [hi]
  show (match decide (xs.length ≤ sizeLine) with
    | true => compL g mt me (wipeE ρ vs) xs
    | false => .bad) = _
  rw [decide_eq_true hl]
  exact compL_map f xs h
theorem boolsOf_map {α : Type} (f : α → Bool) : ∀ xs : List α, boolsOf (xs.map fun x => .bl (f x)) = some (xs.map f)
  | [] => rfl
  | x :: xs => by
    show (boolsOf (xs.map fun x => D.bl (f x))).map (f x :: ·) = _
    rw [boolsOf_map f xs]
    rfl
/-! the words at given values -/
theorem idxD_lst (xs : List D) (i : Int) : idxD (.lst xs) (.int i) = opt (atI xs i) := rfl
theorem idxD_tup (xs : List D) (i : Int) : idxD (.tup xs) (.int i) = opt (atI xs i) := rfl
theorem idxD_scr (xs : List Int) (i : Int) : idxD (.scr xs) (.int i) = opt ((atI xs i).map .int) := rfl
theorem ltD_i (a b : Int) : ltD (.int a) (.int b) = .ok (.bl (decide (a < b))) := rfl
theorem leD_i (a b : Int) : leD (.int a) (.int b) = .ok (.bl (decide (a ≤ b))) := rfl
theorem gtD_i (a b : Int) : gtD (.int a) (.int b) = .ok (.bl (decide (a > b))) := rfl
theorem geD_i (a b : Int) : geD (.int a) (.int b) = .ok (.bl (decide (a ≥ b))) := rfl
theorem eqD_i (a b : Int) : eqD (.int a) (.int b) = .ok (.bl (decide (a = b))) := rfl
theorem neD_i (a b : Int) : neD (.int a) (.int b) = .ok (.bl (!decide (a = b))) := rfl
theorem eqD_b (a b : Bool) : eqD (.bl a) (.bl b) = .ok (.bl (decide (a = b))) := rfl
theorem neD_b (a b : Bool) : neD (.bl a) (.bl b) = .ok (.bl (!decide (a = b))) := rfl
theorem eqD_s (a b : Str) : eqD (.str a) (.str b) = .ok (.bl (decide (a = b))) := rfl
theorem neD_s (a b : Str) : neD (.str a) (.str b) = .ok (.bl (!decide (a = b))) := rfl
theorem absD_i (i : Int) : absD [.int i] = .ok (.int (if i < 0 then -i else i)) := rfl
theorem intD_i (i : Int) : intD [.int i] = .ok (.int i) := rfl
theorem negD_i (i : Int) : negD (.int i) = .ok (.int (-i)) := rfl
theorem lenD_lst (xs : List D) : lenD [.lst xs] = .ok (.int xs.length) := rfl
theorem lenD_tup (xs : List D) : lenD [.tup xs] = .ok (.int xs.length) := rfl
theorem lenD_scr (xs : List Int) : lenD [.scr xs] = .ok (.int xs.length) := rfl
theorem opt_some {α : Type} (a : α) : opt (some a) = .ok a := rfl
theorem rng1_p (n : Nat) (h : n < 4611686018427387904) : rng1 [.int n] = .ok (rangeD 0 1 n) := by
  have e : -(2 ^ 62) ≤ (n : Int) ∧ (n : Int) < 2 ^ 62 := ⟨by omega, by omega⟩
  unfold rng1
  dsimp only
  rw [if_pos e, Int.toNat_natCast]
theorem allD_b {α : Type} (f : α → Bool) (xs : List α) : allD [.lst (xs.map fun x => .bl (f x))] = .ok (.bl (xs.all f)) := by
  show (opt (boolsOf (xs.map fun x => .bl (f x))) >>= fun ns => Res.ok (D.bl (ns.all id))) = _
  rw [boolsOf_map f xs]
  show Res.ok (D.bl ((xs.map f).all id)) = _
  rw [List.all_map]
  rfl
theorem appG_ok (xs : List D) (d : D) (h : xs.length < sizeLine) : appG xs [d] = .ok (xs ++ [d]) := if_pos h
/-! tests and statements as values -/
def andB : Res Bool → Res Bool → Res Bool
  | .ok true, r => r
  | .ok false, _ => .ok false
  | .err x, _ => .err x
  | .bad, _ => .bad
def orB : Res Bool → Res Bool → Res Bool
  | .ok true, _ => .ok true
  | .ok false, r => r
  | .err x, _ => .err x
  | .bad, _ => .bad
def andVB : Res D → Res D → Res D
  | .ok (.bl true), r => r
  | .ok (.bl false), _ => .ok (.bl false)
  | .err x, _ => .err x
  | _, _ => .bad
def orVB : Res D → Res D → Res D
  | .ok (.bl true), _ => .ok (.bl true)
  | .ok (.bl false), r => r
  | .err x, _ => .err x
  | _, _ => .bad
theorem nr {α : Type} {a b : α} (h : a = b) : a = b := h
theorem andB_ok (a b : Bool) : andB (.ok a) (.ok b) = .ok (a && b) := by cases a <;> rfl
theorem andB_f (r : Res Bool) : andB (.ok false) r = .ok false := nr rfl
theorem andB_t (r : Res Bool) : andB (.ok true) r = r := nr rfl
theorem orB_ok (a b : Bool) : orB (.ok a) (.ok b) = .ok (a || b) := by cases a <;> rfl
theorem orB_f (r : Res Bool) : orB (.ok false) r = r := nr rfl
theorem orB_t (r : Res Bool) : orB (.ok true) r = .ok true := nr rfl
theorem andVB_ok (a b : Bool) : andVB (.ok (.bl a)) (.ok (.bl b)) = .ok (.bl (a && b)) := by cases a <;> rfl
theorem andVB_f (r : Res D) : andVB (.ok (.bl false)) r = .ok (.bl false) := nr rfl
theorem andVB_t (r : Res D) : andVB (.ok (.bl true)) r = r := nr rfl
theorem orVB_ok (a b : Bool) : orVB (.ok (.bl a)) (.ok (.bl b)) = .ok (.bl (a || b)) := by cases a <;> rfl
theorem orVB_f (r : Res D) : orVB (.ok (.bl false)) r = r := nr rfl
theorem orVB_t (r : Res D) : orVB (.ok (.bl true)) r = .ok (.bl true) := nr rfl
theorem mAnd_B (ta tb : Env → Res Bool) (ρ : Env) : mAnd ta tb ρ = andB (ta ρ) (tb ρ) := by
  unfold mAnd
  cases ta ρ with
  | ok b => cases b <;> rfl
  | err x => rfl
  | bad => rfl
theorem mOr_B (ta tb : Env → Res Bool) (ρ : Env) : mOr ta tb ρ = orB (ta ρ) (tb ρ) := by
  unfold mOr
  cases ta ρ with
  | ok b => cases b <;> rfl
  | err x => rfl
  | bad => rfl
theorem mAndV_B (ta tb : Env → Res D) (ρ : Env) : mAndV ta tb ρ = andVB (ta ρ) (tb ρ) := by
  unfold mAndV
  cases ta ρ with
  | ok d =>
    cases d with
    | bl b => cases b <;> rfl
    | _ => rfl
  | err x => rfl
  | bad => rfl
theorem mOrV_B (ta tb : Env → Res D) (ρ : Env) : mOrV ta tb ρ = orVB (ta ρ) (tb ρ) := by
  unfold mOrV
  cases ta ρ with
  | ok d =>
    cases d with
    | bl b => cases b <;> rfl
    | _ => rfl
  | err x => rfl
  | bad => rfl
theorem mChain_B (g g' : D → D → Res D) (ma mb mc : Env → Res D) (ρ : Env) : mChain g g' ma mb mc ρ = (ma ρ >>= fun x => mb ρ >>= fun y => andVB (g x y) (mc ρ >>= fun z => g' y z)) := by
  unfold mChain
  cases ma ρ with
  | err x => rfl
  | bad => rfl
  | ok x =>
    cases mb ρ with
    | err x => rfl
    | bad => rfl
    | ok y =>
      show ((g x y >>= tru) >>= _) = andVB (g x y) _
      cases g x y with
      | ok d =>
        cases d with
        | bl b => cases b <;> rfl
        | _ => rfl
      | err x => rfl
      | bad => rfl
def seqF : Flow → (Env → Flow) → Flow
  | .nx ρ, m => m ρ
  | f, _ => f
theorem mSeq_B (m m' : Env → Flow) (ρ : Env) : mSeq m m' ρ = seqF (m ρ) m' := by
  unfold mSeq seqF
  cases m ρ <;> rfl
theorem seqF_nx (ρ : Env) (m : Env → Flow) : seqF (.nx ρ) m = m ρ := nr rfl
theorem seqF_rt (d : D) (ρ : Env) (m : Env → Flow) : seqF (.rt d ρ) m = .rt d ρ := nr rfl
theorem seqF_er (x : Exc) (ρ : Env) (m : Env → Flow) : seqF (.er x ρ) m = .er x ρ := nr rfl
theorem seqF_if (c : Prop) [Decidable c] (a b : Flow) (m : Env → Flow) : seqF (if c then a else b) m = if c then seqF a m else seqF b m := by split <;> rfl
theorem mIfS_B (t : Env → Res Bool) (m m' : Env → Flow) (ρ : Env) : mIfS t m m' ρ = bindF (t ρ) ρ fun k => if k = true then m ρ else m' ρ := by
  unfold mIfS
  cases t ρ with
  | ok b => cases b <;> rfl
  | err x => rfl
  | bad => rfl
theorem mIf_B {α : Type} (t : Env → Res Bool) (m m' : Env → Res α) (ρ : Env) : mIf t m m' ρ = (t ρ >>= fun k => if k = true then m ρ else m' ρ) := by
  unfold mIf
  cases t ρ with
  | ok b => cases b <;> rfl
  | err x => rfl
  | bad => rfl
theorem bind_if {α β : Type} (c : Prop) [Decidable c] (a b : Res α) (f : α → Res β) : ((if c then a else b) >>= f) = if c then (a >>= f) else (b >>= f) := by split <;> rfl
theorem bindF_if {α : Type} (c : Prop) [Decidable c] (a b : Res α) (ρ : Env) (f : α → Flow) : bindF (if c then a else b) ρ f = if c then bindF a ρ f else bindF b ρ f := by split <;> rfl
def runF : Flow → Res D
  | .nx _ => .ok .non
  | .rt d _ => .ok d
  | .er x _ => .err x
  | .bad => .bad
theorem runD_B (l : Nat) (m : Env → Flow) (ds : List D) : runD l m ds = runF (m (startE l ds)) := by unfold runD runF; cases m (startE l ds) <;> rfl
theorem runF_rt (d : D) (ρ : Env) : runF (.rt d ρ) = .ok d := nr rfl
theorem runF_nx (ρ : Env) : runF (.nx ρ) = .ok .non := nr rfl
theorem runF_er (x : Exc) (ρ : Env) : runF (.er x ρ) = .err x := nr rfl
theorem runF_if (c : Prop) [Decidable c] (a b : Flow) : runF (if c then a else b) = if c then runF a else runF b := by split <;> rfl
def runIF (c : Nat) : Flow → Res (List D)
  | .nx ρ => finI c ρ
  | .er x _ => .err x
  | _ => .bad
theorem runI_B (l c : Nat) (m : Env → Flow) (ds : List D) : runI l c m ds = runIF c (m (startI l c ds)) := by unfold runI runIF; cases m (startI l c ds) <;> rfl
theorem runIF_nx (c : Nat) (ρ : Env) : runIF c (.nx ρ) = finI c ρ := nr rfl
theorem runIF_er (c : Nat) (x : Exc) (ρ : Env) : runIF c (.er x ρ) = .err x := nr rfl
theorem runIF_if (k : Nat) (c : Prop) [Decidable c] (a b : Flow) : runIF k (if c then a else b) = if c then runIF k a else runIF k b := by split <;> rfl
theorem addD_l (a b : List D) : addD (.lst a) (.lst b) = if a.length + b.length ≤ sizeLine then .ok (.lst (a ++ b)) else .bad := nr rfl
theorem addD_t (a b : List D) : addD (.tup a) (.tup b) = if a.length + b.length ≤ sizeLine then .ok (.tup (a ++ b)) else .bad := nr rfl
theorem szl : sizeLine = 16777216 := nr rfl
def optF : Option Env → (Env → Flow) → Flow
  | some ρ, f => f ρ
  | none, _ => .bad
theorem optF_some (ρ : Env) (f : Env → Flow) : optF (some ρ) f = f ρ := nr rfl
theorem forL_nil (g : D → Env → Option Env) (mb : Env → Flow) (ρ : Env) : forL g mb [] ρ = .nx ρ := nr rfl
theorem forL_c (g : D → Env → Option Env) (mb : Env → Flow) (x : D) (xs : List D) (ρ : Env) : forL g mb (x :: xs) ρ = optF (g x ρ) fun ρ1 => seqF (mb ρ1) (forL g mb xs) := by
  show (match g x ρ with
    | none => Flow.bad
    | some ρ1 => match mb ρ1 with
      | .nx ρ2 => forL g mb xs ρ2
      | f => f) = _
  cases g x ρ with
  | none => rfl
  | some ρ1 =>
    show (match mb ρ1 with
      | .nx ρ2 => forL g mb xs ρ2
      | f => f) = seqF (mb ρ1) _
    cases mb ρ1 <;> rfl
theorem mFor_B (mi : Env → Res (List D)) (g : D → Env → Option Env) (mb : Env → Flow) (ρ : Env) : mFor mi g mb ρ = bindF (mi ρ) ρ fun xs => forL g mb xs ρ := nr rfl
theorem compL_nil (g : D → Env → Option Env) (mt : Env → Res Bool) (me : Env → Res D) (ρ : Env) : compL g mt me ρ [] = .ok [] := nr rfl
def optR {α : Type} : Option Env → (Env → Res α) → Res α
  | some ρ, f => f ρ
  | none, _ => .bad
theorem optR_some {α : Type} (ρ : Env) (f : Env → Res α) : optR (some ρ) f = f ρ := nr rfl
theorem compL_c (g : D → Env → Option Env) (mt : Env → Res Bool) (me : Env → Res D) (ρ : Env) (x : D) (xs : List D) : compL g mt me ρ (x :: xs) = optR (g x ρ) fun ρ1 => nerr (mt ρ1) >>= fun b => if b = true then nerr (me ρ1) >>= fun d => compL g mt me ρ xs >>= fun ds => .ok (d :: ds) else compL g mt me ρ xs := by
  show (match g x ρ with
    | none => Res.bad
    | some ρ1 => nerr (mt ρ1) >>= fun b => match b with
      | true => nerr (me ρ1) >>= fun d => compL g mt me ρ xs >>= fun ds => .ok (d :: ds)
      | false => compL g mt me ρ xs) = _
  cases g x ρ with
  | none => rfl
  | some ρ1 =>
    show (nerr (mt ρ1) >>= _) = (nerr (mt ρ1) >>= _)
    cases nerr (mt ρ1) with
    | ok b => cases b <;> rfl
    | err x => rfl
    | bad => rfl
theorem nerr_ok {α : Type} (a : α) : nerr (.ok a : Res α) = .ok a := nr rfl
theorem mComp_B (vs : List Nat) (mi : Env → Res (List D)) (g : D → Env → Option Env) (mt : Env → Res Bool) (me : Env → Res D) (ρ : Env) : mComp vs mi g mt me ρ = (mi ρ >>= fun xs => if xs.length ≤ sizeLine then compL g mt me (wipeE ρ vs) xs else .bad) := by
  unfold mComp
  cases mi ρ with
  | ok xs =>
    show (match decide (xs.length ≤ sizeLine) with
      | true => compL g mt me (wipeE ρ vs) xs
      | false => .bad) = if xs.length ≤ sizeLine then compL g mt me (wipeE ρ vs) xs else .bad
    by_cases h : xs.length ≤ sizeLine
    · rw [if_pos h, decide_eq_true h]
    · rw [if_neg h, decide_eq_false h]
  | err x => rfl
  | bad => rfl
theorem allD_l (xs : List D) : allD [.lst xs] = (opt (boolsOf xs) >>= fun ns => .ok (.bl (ns.all id))) := nr rfl
theorem anyD_l (xs : List D) : anyD [.lst xs] = (opt (boolsOf xs) >>= fun ns => .ok (.bl (ns.any id))) := nr rfl
theorem bools_nil : boolsOf [] = some [] := nr rfl
theorem bools_c (b : Bool) (xs : List D) : boolsOf (.bl b :: xs) = (boolsOf xs).map (b :: ·) := nr rfl
theorem seqOf_l (xs : List D) : seqOf (.lst xs) = .ok xs := nr rfl
theorem seqOf_t (xs : List D) : seqOf (.tup xs) = .ok xs := nr rfl
/-! slots that may be stored -/
theorem okS_s (a : Sl) (l : Env) (i : Nat) : okS (a :: l) (i + 1) = okS l i := nr rfl
theorem okS_v (x : Fd) (l : Env) : okS (.v x :: l) 0 = true := nr rfl
theorem okS_no (l : Env) : okS (.no :: l) 0 = true := nr rfl
def fine (s : Sl) : Prop := ∀ l, okS (s :: l) 0 = true
theorem fine_v (x : Fd) : fine (.v x) := fun _ => rfl
theorem fine_no : fine .no := fun _ => rfl
theorem compL_gen {α : Type} (e : α → D) (p : α → Bool) (f : α → D) {g : D → Env → Option Env} {mt : Env → Res Bool} {me : Env → Res D} {ρ : Env} : ∀ xs : List α, (∀ x ∈ xs, ∃ ρ1, g (e x) ρ = some ρ1 ∧ mt ρ1 = .ok (p x) ∧ (p x = true → me ρ1 = .ok (f x))) → compL g mt me ρ (xs.map e) = .ok ((xs.filter p).map f)
  | [], _ => rfl
  | x :: xs, h => by
    obtain ⟨ρ1, e1, e2, e3⟩ := h x (List.mem_cons_self ..)
    rw [List.map_cons, compL_c, e1, optR_some, e2, nerr_ok, bind_ok, compL_gen e p f xs fun y hy => h y (List.mem_cons_of_mem _ hy)]
    by_cases hp : p x = true
    · rw [if_pos hp, e3 hp, nerr_ok, bind_ok, bind_ok, List.filter_cons, if_pos hp, List.map_cons]
    · rw [if_neg hp, List.filter_cons, if_neg hp]
theorem compL_all {α : Type} (e f : α → D) {g : D → Env → Option Env} {mt : Env → Res Bool} {me : Env → Res D} {ρ : Env} (xs : List α) (h : ∀ x ∈ xs, ∃ ρ1, g (e x) ρ = some ρ1 ∧ mt ρ1 = .ok true ∧ me ρ1 = .ok (f x)) : compL g mt me ρ (xs.map e) = .ok (xs.map f) := by
  have := compL_gen e (fun _ => true) f xs fun x hx => by
    obtain ⟨ρ1, e1, e2, e3⟩ := h x hx
    exact ⟨ρ1, e1, e2, fun _ => e3⟩
  rw [this, List.filter_eq_self.mpr fun _ _ => rfl]
theorem ints_map {α : Type} (f : α → Int) : ∀ xs : List α, intsOf (xs.map fun x => .int (f x)) = some (xs.map f)
  | [] => rfl
  | x :: xs => by
    show (intsOf (xs.map fun x => D.int (f x))).map (f x :: ·) = _
    rw [ints_map f xs]
    rfl
theorem sumD_map {α : Type} (f : α → Int) (xs : List α) : sumD [.lst (xs.map fun x => .int (f x))] = .ok (.int ((xs.map f).sum)) := by
  show (opt (intsOf (xs.map fun x => D.int (f x))) >>= fun ns => Res.ok (D.int ns.sum)) = _
  rw [ints_map f xs]
  rfl
theorem selfB_eq (c : Nat) (f : Str) (fs : List (Str × Fd)) (l : Env) : mSelfB 0 c f (.oo c fs :: l) = opt ((fs.lookup f).map fdD) := by
  show (if c = c then opt ((fs.lookup f).map fdD) else .bad) = _
  rw [if_pos rfl]
theorem mEnd_B (ρ : Env) : mEnd ρ = .nx ρ := nr rfl
theorem bindF_err' {α : Type} (x : Exc) (ρ : Env) (f : α → Flow) : bindF (.err x) ρ f = .er x ρ := nr rfl
/-- a loop that goes through, whatever the items -/
theorem forL_all (I : Env → Prop) {g : D → Env → Option Env} {mb : Env → Flow} : ∀ (xs : List D) (ρ : Env), I ρ → (∀ x ∈ xs, ∀ ρ, I ρ → ∃ ρ1 ρ2, g x ρ = some ρ1 ∧ mb ρ1 = .nx ρ2 ∧ I ρ2) → ∃ ρ', forL g mb xs ρ = .nx ρ' ∧ I ρ'
  | [], ρ, h, _ => ⟨ρ, rfl, h⟩
  | x :: xs, ρ, h, st => by
    obtain ⟨ρ1, ρ2, e1, e2, h2⟩ := st x (List.mem_cons_self ..) ρ h
    rw [forL_cons e1 e2]
    exact forL_all I xs ρ2 h2 fun y hy => st y (List.mem_cons_of_mem _ hy)
end Cr
/-! Tl: typed readings of the mirrors. -/
namespace Cr
open PySem L2
/-! ### types -/
class Enc (α : Type) where
  en : α → D
abbrev enc {α : Type} [Enc α] (a : α) : D := Enc.en a
instance : Enc Int := ⟨.int⟩
instance : Enc Bool := ⟨.bl⟩
instance : Enc Str := ⟨.str⟩
instance : Enc Unit := ⟨fun _ => .non⟩
instance : Enc D := ⟨fun d => d⟩
instance {α : Type} [Enc α] : Enc (List α) := ⟨fun xs => .lst (xs.map Enc.en)⟩
instance {α : Type} [Enc α] : Enc (Option α) := ⟨fun o => match o with
  | none => .non
  | some a => Enc.en a⟩
/-- a tuple read as a row of any length -/
structure TL (α : Type) where
  l : List α
deriving DecidableEq
instance {α : Type} [Enc α] : Enc (TL α) := ⟨fun x => .tup (x.l.map Enc.en)⟩
/-- the script -/
structure Scr where
  l : List Int
instance : Enc Scr := ⟨fun x => .scr x.l⟩
structure T1 (A : Type) where
  a : A
deriving DecidableEq
structure T2 (A B : Type) where
  a : A
  b : B
deriving DecidableEq
structure T3 (A B C : Type) where
  a : A
  b : B
  c : C
deriving DecidableEq
structure T4 (A B C E : Type) where
  a : A
  b : B
  c : C
  d : E
deriving DecidableEq
structure T5 (A B C E F : Type) where
  a : A
  b : B
  c : C
  d : E
  e : F
deriving DecidableEq
instance {A : Type} [Enc A] : Enc (T1 A) := ⟨fun x => .tup [Enc.en x.a]⟩
instance {A B : Type} [Enc A] [Enc B] : Enc (T2 A B) := ⟨fun x => .tup [Enc.en x.a, Enc.en x.b]⟩
instance {A B C : Type} [Enc A] [Enc B] [Enc C] : Enc (T3 A B C) := ⟨fun x => .tup [Enc.en x.a, Enc.en x.b, Enc.en x.c]⟩
instance {A B C E : Type} [Enc A] [Enc B] [Enc C] [Enc E] : Enc (T4 A B C E) := ⟨fun x => .tup [Enc.en x.a, Enc.en x.b, Enc.en x.c, Enc.en x.d]⟩
instance {A B C E F : Type} [Enc A] [Enc B] [Enc C] [Enc E] [Enc F] : Enc (T5 A B C E F) := ⟨fun x => .tup [Enc.en x.a, Enc.en x.b, Enc.en x.c, Enc.en x.d, Enc.en x.e]⟩
/-! lists of a fixed length with items of several kinds -/
structure R1 (A : Type) where
  a : A
structure R2 (A B : Type) where
  a : A
  b : B
structure R3 (A B C : Type) where
  a : A
  b : B
  c : C
structure R4 (A B C E : Type) where
  a : A
  b : B
  c : C
  d : E
structure R5 (A B C E F : Type) where
  a : A
  b : B
  c : C
  d : E
  e : F
instance {A : Type} [Enc A] : Enc (R1 A) := ⟨fun x => .lst [Enc.en x.a]⟩
instance {A B : Type} [Enc A] [Enc B] : Enc (R2 A B) := ⟨fun x => .lst [Enc.en x.a, Enc.en x.b]⟩
instance {A B C : Type} [Enc A] [Enc B] [Enc C] : Enc (R3 A B C) := ⟨fun x => .lst [Enc.en x.a, Enc.en x.b, Enc.en x.c]⟩
instance {A B C E : Type} [Enc A] [Enc B] [Enc C] [Enc E] : Enc (R4 A B C E) := ⟨fun x => .lst [Enc.en x.a, Enc.en x.b, Enc.en x.c, Enc.en x.d]⟩
instance {A B C E F : Type} [Enc A] [Enc B] [Enc C] [Enc E] [Enc F] : Enc (R5 A B C E F) := ⟨fun x => .lst [Enc.en x.a, Enc.en x.b, Enc.en x.c, Enc.en x.d, Enc.en x.e]⟩
/-! ### what a typed reading says -/
/-- a flow against a typed end -/
def SimD {γ : Type} (Q : γ → Flow → Prop) (E : Env → Prop) (f : Flow) (T : Res γ) : Prop := match T with
  | .ok g => Q g f
  | .err x => ∃ ρ, f = .er x ρ ∧ E ρ
  | .bad => True
structure Sim {γ : Type} (Q : γ → Flow → Prop) (E : Env → Prop) (f : Flow) (T : Res γ) : Prop where
  run : SimD Q E f T
/-- a value against a typed one -/
def LeD {α δ : Type} (e : α → δ) (r : Res δ) (t : Res α) : Prop := match t with
  | .ok a => r = .ok (e a)
  | .err x => r = .err x
  | .bad => True
structure Le {α δ : Type} (e : α → δ) (r : Res δ) (t : Res α) : Prop where
  g : LeD e r t
abbrev encs {α : Type} [Enc α] (xs : List α) : List D := xs.map Enc.en
abbrev tt : Env → Prop := fun _ => True
inductive Fl (R σ : Type) where
  | ret (r : R)
  | nxt (s : σ)
/-- a def's end -/
def QF {α : Type} [Enc α] (a : α) (f : Flow) : Prop := (∃ ρ, f = .rt (enc a) ρ) ∨ (enc a = .non ∧ ∃ ρ, f = .nx ρ)
def QN {σ : Type} (I : σ → Env → Prop) (s : σ) (f : Flow) : Prop := ∃ ρ, f = .nx ρ ∧ I s ρ
def QL {R σ : Type} [Enc R] (I : σ → Env → Prop) (r : Fl R σ) (f : Flow) : Prop := match r with
  | .ret r => ∃ ρ, f = .rt (enc r) ρ
  | .nxt s => ∃ ρ, f = .nx ρ ∧ I s ρ
def QI {α : Type} (c : Nat) (fs : α → List D) (a : α) (f : Flow) : Prop := ∃ ρ, f = .nx ρ ∧ finI c ρ = .ok (fs a)
section
variable {γ : Type} {Q : γ → Flow → Prop} {E : Env → Prop} {ρ : Env} {T : Res γ} {α β : Type} {f : Flow}
theorem sim_bad {f : Flow} : Sim Q E f .bad := ⟨trivial⟩
/-! ### values -/
theorem c_ok {r : Res D} {K : D → Flow} [Enc α] (v : α) (h : r = .ok (enc v)) (k : Sim Q E (K (enc v)) T) : Sim Q E (bindF r ρ K) T := by
  rw [h]; exact k
theorem c_okb {r : Res Bool} {K : Bool → Flow} (v : Bool) (h : r = .ok v) (k : Sim Q E (K v) T) : Sim Q E (bindF r ρ K) T := by
  rw [h]; exact k
theorem c_okl {r : Res (List D)} {K : List D → Flow} [Enc α] (v : List α) (h : r = .ok (encs v)) (k : Sim Q E (K (encs v)) T) : Sim Q E (bindF r ρ K) T := by
  rw [h]; exact k
theorem c_okg {δ : Type} {r : Res δ} {K : δ → Flow} (v : δ) (h : r = .ok v) (k : Sim Q E (K v) T) : Sim Q E (bindF r ρ K) T := by
  rw [h]; exact k
theorem c_leaf {δ : Type} {e : α → δ} {r : Res δ} {t : Res α} {K : δ → Flow} {S : α → Res γ} (h : Le e r t) (hE : E ρ) (k : ∀ a, Sim Q E (K (e a)) (S a)) : Sim Q E (bindF r ρ K) (t >>= S) := by
  cases t with
  | ok a =>
    have h : r = .ok (e a) := h.g
    rw [h]; exact k a
  | err x =>
    have h : r = .err x := h.g
    rw [h]; exact ⟨⟨ρ, rfl, hE⟩⟩
  | bad => exact ⟨trivial⟩
theorem bindF_as {α β : Type} (r : Res α) (g : α → Res β) (K : β → Flow) : bindF (r >>= g) ρ K = bindF r ρ fun x => bindF (g x) ρ K := by cases r <;> rfl
theorem c_bin {g : D → D → Res D} {ma mb : Env → Res D} {K : D → Flow} (h : Sim Q E (bindF (ma ρ) ρ fun x => bindF (mb ρ) ρ fun y => bindF (g x y) ρ K) T) : Sim Q E (bindF (mBin g ma mb ρ) ρ K) T := by
  have e : bindF (mBin g ma mb ρ) ρ K = bindF (ma ρ) ρ fun x => bindF (mb ρ) ρ fun y => bindF (g x y) ρ K := by
    unfold mBin
    rw [bindF_as]
    congr 1; funext x
    rw [bindF_as]
  rw [e]; exact h
end
section
variable {γ : Type} {Q : γ → Flow → Prop} {E : Env → Prop} {ρ : Env} {T : Res γ} {α β : Type} {f : Flow}
theorem c_binF {g : D → D → Res (List D)} {ma mb : Env → Res D} {K : List D → Flow} (h : Sim Q E (bindF (ma ρ) ρ fun x => bindF (mb ρ) ρ fun y => bindF (g x y) ρ K) T) : Sim Q E (bindF (mBinF g ma mb ρ) ρ K) T := by
  have e : bindF (mBinF g ma mb ρ) ρ K = bindF (ma ρ) ρ fun x => bindF (mb ρ) ρ fun y => bindF (g x y) ρ K := by
    unfold mBinF
    rw [bindF_as]
    congr 1; funext x
    rw [bindF_as]
  rw [e]; exact h
theorem c_un {g : D → Res D} {ma : Env → Res D} {K : D → Flow} (h : Sim Q E (bindF (ma ρ) ρ fun x => bindF (g x) ρ K) T) : Sim Q E (bindF (mUn g ma ρ) ρ K) T := by
  have e : bindF (mUn g ma ρ) ρ K = bindF (ma ρ) ρ fun x => bindF (g x) ρ K := by
    unfold mUn; rw [bindF_as]
  rw [e]; exact h
theorem c_unF {g : D → Res (List D)} {ma : Env → Res D} {K : List D → Flow} (h : Sim Q E (bindF (ma ρ) ρ fun x => bindF (g x) ρ K) T) : Sim Q E (bindF (mUnF g ma ρ) ρ K) T := by
  have e : bindF (mUnF g ma ρ) ρ K = bindF (ma ρ) ρ fun x => bindF (g x) ρ K := by
    unfold mUnF; rw [bindF_as]
  rw [e]; exact h
theorem c_toE {m : Env → Res (List D)} {K : D → Flow} (h : Sim Q E (bindF (m ρ) ρ fun x => K (.lst x)) T) : Sim Q E (bindF (toE m ρ) ρ K) T := by
  have e : bindF (toE m ρ) ρ K = bindF (m ρ) ρ fun x => K (.lst x) := by
    unfold toE; rw [bindF_as]; rfl
  rw [e]; exact h
theorem c_arg {δ : Type} {g : List D → Res δ} {ms : Env → Res (List D)} {K : δ → Flow} (h : Sim Q E (bindF (ms ρ) ρ fun xs => bindF (g xs) ρ K) T) : Sim Q E (bindF (mArg g ms ρ) ρ K) T := by
  have e : bindF (mArg g ms ρ) ρ K = bindF (ms ρ) ρ fun xs => bindF (g xs) ρ K := by
    unfold mArg; rw [bindF_as]
  rw [e]; exact h
theorem c_nil {K : List D → Flow} (h : Sim Q E (K []) T) : Sim Q E (bindF (mNil ρ) ρ K) T := h
theorem c_cons {ma : Env → Res D} {mr : Env → Res (List D)} {K : List D → Flow} (h : Sim Q E (bindF (ma ρ) ρ fun x => bindF (mr ρ) ρ fun xs => K (x :: xs)) T) : Sim Q E (bindF (mCons ma mr ρ) ρ K) T := by
  have e : bindF (mCons ma mr ρ) ρ K = bindF (ma ρ) ρ fun x => bindF (mr ρ) ρ fun xs => K (x :: xs) := by
    unfold mCons
    rw [bindF_as]
    congr 1; funext x
    rw [bindF_as]; rfl
  rw [e]; exact h
theorem c_tup {ms : Env → Res (List D)} {K : D → Flow} (h : Sim Q E (bindF (ms ρ) ρ fun xs => bindF (if xs.length ≤ sizeLine then Res.ok (D.tup xs) else .bad) ρ K) T) : Sim Q E (bindF (mTup ms ρ) ρ K) T := by
  have e : bindF (mTup ms ρ) ρ K = bindF (ms ρ) ρ fun xs => bindF (if xs.length ≤ sizeLine then Res.ok (D.tup xs) else .bad) ρ K := by
    unfold mTup; rw [bindF_as]
  rw [e]; exact h
theorem c_lst {ms : Env → Res (List D)} {K : List D → Flow} (h : Sim Q E (bindF (ms ρ) ρ fun xs => bindF (if xs.length ≤ sizeLine then Res.ok xs else .bad) ρ K) T) : Sim Q E (bindF (mLst ms ρ) ρ K) T := by
  have e : bindF (mLst ms ρ) ρ K = bindF (ms ρ) ρ fun xs => bindF (if xs.length ≤ sizeLine then Res.ok xs else .bad) ρ K := by
    unfold mLst; rw [bindF_as]
  rw [e]; exact h
theorem c_mth {c : Nat} {δ : Type} {mf : List D → Res δ} {mo : Env → Res D} {ms : Env → Res (List D)} {K : δ → Flow} (fs : List D) (v : D) (hv : v = .obj c fs)
    (ho : ∀ K' : D → Flow, Sim Q E (K' v) T → Sim Q E (bindF (mo ρ) ρ K') T) (h : Sim Q E (bindF (ms ρ) ρ fun xs => bindF (mf (v :: xs)) ρ K) T) : Sim Q E (bindF (mMth c mf mo ms ρ) ρ K) T := by
  subst hv
  have e : bindF (mMth c mf mo ms ρ) ρ K = bindF (mo ρ) ρ fun d => bindF (match d with
    | .obj c' xs => if c' = c then ms ρ >>= fun ds => mf (.obj c' xs :: ds) else .bad
    | _ => .bad) ρ K := by
    unfold mMth
    exact bindF_as _ _ _
  rw [e]
  refine ho _ ?_
  show Sim Q E (bindF (if c = c then ms ρ >>= fun ds => mf (.obj c fs :: ds) else .bad) ρ K) T
  rw [if_pos rfl, bindF_as]
  exact h
theorem c_mk {c : Nat} {mf : List D → Res (List D)} {ms : Env → Res (List D)} {K : D → Flow} (h : Sim Q E (bindF (ms ρ) ρ fun xs => bindF (mf xs) ρ fun fs => K (.obj c fs)) T) : Sim Q E (bindF (mMk c mf ms ρ) ρ K) T := by
  have e : bindF (mMk c mf ms ρ) ρ K = bindF (ms ρ) ρ fun xs => bindF (mf xs) ρ fun fs => K (.obj c fs) := by
    unfold mMk
    rw [bindF_as]
    congr 1; funext x
    rw [bindF_as]; rfl
  rw [e]; exact h
theorem c_sl {δ : Type} {g : D → Option Int → Option Int → Res δ} {ma : Env → Res D} {ml mh : Env → Res (Option Int)} {K : δ → Flow}
    (h : Sim Q E (bindF (ma ρ) ρ fun x => bindF (ml ρ) ρ fun l => bindF (mh ρ) ρ fun u => bindF (g x l u) ρ K) T) : Sim Q E (bindF (mSl g ma ml mh ρ) ρ K) T := by
  have e : bindF (mSl g ma ml mh ρ) ρ K = bindF (ma ρ) ρ fun x => bindF (ml ρ) ρ fun l => bindF (mh ρ) ρ fun u => bindF (g x l u) ρ K := by
    unfold mSl
    rw [bindF_as]
    congr 1; funext x
    rw [bindF_as]
    congr 1; funext y
    rw [bindF_as]
  rw [e]; exact h
theorem c_part {m : Env → Res D} {K : Option Int → Flow} (h : Sim Q E (bindF (m ρ) ρ fun x => bindF (intO x) ρ K) T) : Sim Q E (bindF (mPart m ρ) ρ K) T := by
  have e : bindF (mPart m ρ) ρ K = bindF (m ρ) ρ fun x => bindF (intO x) ρ K := by
    unfold mPart; rw [bindF_as]
  rw [e]; exact h
theorem c_int {i : Int} {K : Option Int → Flow} (h : Sim Q E (K (some i)) T) : Sim Q E (bindF (intO (enc i)) ρ K) T := h
theorem c_no {K : Option Int → Flow} (h : Sim Q E (K none) T) : Sim Q E (bindF (mNo ρ) ρ K) T := h
/-! tests -/
theorem c_tst {m : Env → Res D} {K : Bool → Flow} (h : Sim Q E (bindF (m ρ) ρ fun x => bindF (tru x) ρ K) T) : Sim Q E (bindF (mTst m ρ) ρ K) T := by
  have e : bindF (mTst m ρ) ρ K = bindF (m ρ) ρ fun x => bindF (tru x) ρ K := by
    unfold mTst; rw [bindF_as]
  rw [e]; exact h
theorem c_tru {b : Bool} {K : Bool → Flow} (h : Sim Q E (K b) T) : Sim Q E (bindF (tru (enc b)) ρ K) T := h
theorem c_not {t : Env → Res Bool} {K : Bool → Flow} (h : Sim Q E (bindF (t ρ) ρ fun k => K (!k)) T) : Sim Q E (bindF (mNot t ρ) ρ K) T := by
  have e : bindF (mNot t ρ) ρ K = bindF (t ρ) ρ fun k => K (!k) := by
    unfold mNot; rw [bindF_as]; rfl
  rw [e]; exact h
theorem c_notV {t : Env → Res D} {K : D → Flow} (h : Sim Q E (bindF (t ρ) ρ fun x => bindF (tru x) ρ fun k => K (enc (!k))) T) : Sim Q E (bindF (mNotV t ρ) ρ K) T := by
  have e : bindF (mNotV t ρ) ρ K = bindF (t ρ) ρ fun x => bindF (tru x) ρ fun k => K (enc (!k)) := by
    unfold mNotV; rw [bindF_as, bindF_as]; rfl
  rw [e]; exact h
end
/-! short circuits, typed -/
def andR (a : Bool) (b : Res Bool) : Res Bool := if a = true then b else .ok false
def orR (a : Bool) (b : Res Bool) : Res Bool := if a = true then .ok true else b
def ifR {α : Type} (c : Bool) (a b : Res α) : Res α := if c = true then a else b
theorem andR_ok (a b : Bool) : andR a (.ok b) = .ok (a && b) := by cases a <;> rfl
theorem orR_ok (a b : Bool) : orR a (.ok b) = .ok (a || b) := by cases a <;> rfl
theorem ifR_ok {α : Type} (c : Bool) (a b : α) : ifR c (.ok a) (.ok b) = .ok (if c = true then a else b) := by cases c <;> rfl
theorem andR_t (b : Res Bool) : andR true b = b := rfl
theorem andR_f (b : Res Bool) : andR false b = .ok false := rfl
theorem orR_t (b : Res Bool) : orR true b = .ok true := rfl
theorem orR_f (b : Res Bool) : orR false b = b := rfl
theorem ifR_t {α : Type} (a b : Res α) : ifR true a b = a := rfl
theorem ifR_f {α : Type} (a b : Res α) : ifR false a b = b := rfl
end Cr
/-! Tl, part 2: tests, statements, loops. -/
namespace Cr
open PySem L2
section
variable {γ : Type} {Q : γ → Flow → Prop} {E : Env → Prop} {ρ ρ' : Env} {T : Res γ} {α β σ : Type} {k : Env → Flow}
theorem le_sim [Enc α] {r : Res D} {t : Res α} (h : Sim (fun (a : α) f => f = .rt (enc a) ρ) tt (bindF r ρ fun d => .rt d ρ) t) : Le enc r t := by
  have h := h.run
  refine ⟨?_⟩
  cases r with
  | ok d =>
    cases t with
    | ok a =>
      have h : Flow.rt d ρ = .rt (enc a) ρ := h
      cases h; rfl
    | err x =>
      obtain ⟨ρ', h, _⟩ := h
      cases h
    | bad => trivial
  | err y =>
    cases t with
    | ok a =>
      have h : Flow.er y ρ = .rt (enc a) ρ := h
      cases h
    | err x =>
      obtain ⟨ρ', h, _⟩ := h
      cases h; rfl
    | bad => trivial
  | bad =>
    cases t with
    | ok a =>
      have h : Flow.bad = .rt (enc a) ρ := h
      cases h
    | err x =>
      obtain ⟨ρ', h, _⟩ := h
      cases h
    | bad => trivial
theorem le_simb {r : Res Bool} {t : Res Bool} (h : Sim (fun (a : Bool) f => f = .rt (enc a) ρ) tt (bindF r ρ fun d => .rt (enc d) ρ) t) : Le id r t := by
  have h := h.run
  refine ⟨?_⟩
  cases r with
  | ok d =>
    cases t with
    | ok a =>
      have h : Flow.rt (enc d) ρ = .rt (enc a) ρ := h
      cases h; rfl
    | err x =>
      obtain ⟨ρ', h, _⟩ := h
      cases h
    | bad => trivial
  | err y =>
    cases t with
    | ok a =>
      have h : Flow.er y ρ = .rt (enc a) ρ := h
      cases h
    | err x =>
      obtain ⟨ρ', h, _⟩ := h
      cases h; rfl
    | bad => trivial
  | bad =>
    cases t with
    | ok a =>
      have h : Flow.bad = .rt (enc a) ρ := h
      cases h
    | err x =>
      obtain ⟨ρ', h, _⟩ := h
      cases h
    | bad => trivial
theorem e_val [Enc α] {d : D} (a : α) (h : d = enc a) : Sim (fun (a : α) f => f = .rt (enc a) ρ) E (.rt d ρ) (.ok a) := ⟨by subst h; rfl⟩
theorem le_refl {δ : Type} {e : α → δ} {r : Res δ} {a : α} (h : r = .ok (e a)) : Le e r (.ok a) := ⟨h⟩
theorem le_of_ok {δ : Type} {e : α → δ} {r : Res δ} {t : Res α} {a : α} (h : Le e r t) (ht : t = .ok a) : r = .ok (e a) := by subst ht; exact h.g
theorem le_of_err {δ : Type} {e : α → δ} {r : Res δ} {t : Res α} {x : Exc} (h : Le e r t) (ht : t = .err x) : r = .err x := by subst ht; exact h.g
/-! short circuits -/
def andM (a : Bool) (r : Res Bool) : Res Bool := if a = true then r else .ok false
def orM (a : Bool) (r : Res Bool) : Res Bool := if a = true then .ok true else r
def andMV (a : Bool) (r : Res D) : Res D := if a = true then r else .ok (enc false)
def orMV (a : Bool) (r : Res D) : Res D := if a = true then .ok (enc true) else r
def ifM {δ : Type} (a : Bool) (r r' : Res δ) : Res δ := if a = true then r else r'
theorem le_and {a : Bool} {r t : Res Bool} (h : a = true → Le id r t) : Le id (andM a r) (andR a t) := by
  cases a
  · exact ⟨rfl⟩
  · exact h rfl
theorem le_or {a : Bool} {r t : Res Bool} (h : a = false → Le id r t) : Le id (orM a r) (orR a t) := by
  cases a
  · exact h rfl
  · exact ⟨rfl⟩
theorem le_andV {a : Bool} {r : Res D} {t : Res Bool} (h : a = true → Le enc r t) : Le enc (andMV a r) (andR a t) := by
  cases a
  · exact ⟨rfl⟩
  · exact h rfl
theorem le_orV {a : Bool} {r : Res D} {t : Res Bool} (h : a = false → Le enc r t) : Le enc (orMV a r) (orR a t) := by
  cases a
  · exact h rfl
  · exact ⟨rfl⟩
theorem le_if {δ : Type} {e : α → δ} {a : Bool} {r r' : Res δ} {t t' : Res α} (h : a = true → Le e r t) (h' : a = false → Le e r' t') : Le e (ifM a r r') (ifR a t t') := by
  cases a
  · exact h' rfl
  · exact h rfl
theorem c_and {ta tb : Env → Res Bool} {K : Bool → Flow} (h : Sim Q E (bindF (ta ρ) ρ fun a => bindF (andM a (tb ρ)) ρ K) T) : Sim Q E (bindF (mAnd ta tb ρ) ρ K) T := by
  have e : bindF (mAnd ta tb ρ) ρ K = bindF (ta ρ) ρ fun a => bindF (andM a (tb ρ)) ρ K := by
    unfold mAnd
    rw [bindF_as]
    congr 1; funext x
    cases x <;> rfl
  rw [e]; exact h
theorem c_or {ta tb : Env → Res Bool} {K : Bool → Flow} (h : Sim Q E (bindF (ta ρ) ρ fun a => bindF (orM a (tb ρ)) ρ K) T) : Sim Q E (bindF (mOr ta tb ρ) ρ K) T := by
  have e : bindF (mOr ta tb ρ) ρ K = bindF (ta ρ) ρ fun a => bindF (orM a (tb ρ)) ρ K := by
    unfold mOr
    rw [bindF_as]
    congr 1; funext x
    cases x <;> rfl
  rw [e]; exact h
theorem c_andV {ma mb : Env → Res D} {K : D → Flow} (h : Sim Q E (bindF (ma ρ) ρ fun x => bindF (tru x) ρ fun a => bindF (andMV a (mb ρ)) ρ K) T) : Sim Q E (bindF (mAndV ma mb ρ) ρ K) T := by
  have e : bindF (mAndV ma mb ρ) ρ K = bindF (ma ρ) ρ fun x => bindF (tru x) ρ fun a => bindF (andMV a (mb ρ)) ρ K := by
    unfold mAndV
    rw [bindF_as, bindF_as]
    congr 1; funext x
    congr 1; funext x
    cases x <;> rfl
  rw [e]; exact h
theorem c_orV {ma mb : Env → Res D} {K : D → Flow} (h : Sim Q E (bindF (ma ρ) ρ fun x => bindF (tru x) ρ fun a => bindF (orMV a (mb ρ)) ρ K) T) : Sim Q E (bindF (mOrV ma mb ρ) ρ K) T := by
  have e : bindF (mOrV ma mb ρ) ρ K = bindF (ma ρ) ρ fun x => bindF (tru x) ρ fun a => bindF (orMV a (mb ρ)) ρ K := by
    unfold mOrV
    rw [bindF_as, bindF_as]
    congr 1; funext x
    congr 1; funext x
    cases x <;> rfl
  rw [e]; exact h
theorem c_if {δ : Type} {t : Env → Res Bool} {ma mb : Env → Res δ} {K : δ → Flow} (h : Sim Q E (bindF (t ρ) ρ fun a => bindF (ifM a (ma ρ) (mb ρ)) ρ K) T) : Sim Q E (bindF (mIf t ma mb ρ) ρ K) T := by
  have e : bindF (mIf t ma mb ρ) ρ K = bindF (t ρ) ρ fun a => bindF (ifM a (ma ρ) (mb ρ)) ρ K := by
    unfold mIf
    rw [bindF_as]
    congr 1; funext x
    cases x <;> rfl
  rw [e]; exact h
theorem c_chain {g g' : D → D → Res D} {ma mb mc : Env → Res D} {K : D → Flow} (h : Sim Q E (bindF (ma ρ) ρ fun x => bindF (mb ρ) ρ fun y => bindF (g x y) ρ fun d => bindF (tru d) ρ fun a => bindF (andMV a (mc ρ >>= fun z => g' y z)) ρ K) T) : Sim Q E (bindF (mChain g g' ma mb mc ρ) ρ K) T := by
  have e : bindF (mChain g g' ma mb mc ρ) ρ K = bindF (ma ρ) ρ fun x => bindF (mb ρ) ρ fun y => bindF (g x y) ρ fun d => bindF (tru d) ρ fun a => bindF (andMV a (mc ρ >>= fun z => g' y z)) ρ K := by
    unfold mChain
    rw [bindF_as]
    congr 1; funext x
    rw [bindF_as]
    congr 1; funext y
    rw [bindF_as, bindF_as]
    congr 1; funext d
    congr 1; funext a
    cases a <;> rfl
  rw [e]; exact h
theorem c_bnd {δ ε : Type} {r : Res δ} {g : δ → Res ε} {K : ε → Flow} (h : Sim Q E (bindF r ρ fun x => bindF (g x) ρ K) T) : Sim Q E (bindF (r >>= g) ρ K) T := by
  rw [bindF_as]; exact h
/-! pure -/
theorem p_bin {g : D → D → Res D} {ma mb : Env → Res D} {x y z : D} (ha : ma ρ = .ok x) (hb : mb ρ = .ok y) (h : g x y = .ok z) : mBin g ma mb ρ = .ok z := by
  unfold mBin; rw [ha, bind_ok, hb, bind_ok]; exact h
theorem p_un {g : D → Res D} {ma : Env → Res D} {x z : D} (ha : ma ρ = .ok x) (h : g x = .ok z) : mUn g ma ρ = .ok z := by
  unfold mUn; rw [ha]; exact h
theorem p_unF {g : D → Res (List D)} {ma : Env → Res D} {x : D} {z : List D} (ha : ma ρ = .ok x) (h : g x = .ok z) : mUnF g ma ρ = .ok z := by
  unfold mUnF; rw [ha]; exact h
theorem p_arg {δ : Type} {g : List D → Res δ} {ms : Env → Res (List D)} {xs : List D} {z : δ} (ha : ms ρ = .ok xs) (h : g xs = .ok z) : mArg g ms ρ = .ok z := by
  unfold mArg; rw [ha]; exact h
theorem p_nil : mNil ρ = .ok [] := rfl
theorem p_cons {ma : Env → Res D} {mr : Env → Res (List D)} {x : D} {xs : List D} (ha : ma ρ = .ok x) (hr : mr ρ = .ok xs) : mCons ma mr ρ = .ok (x :: xs) := by
  unfold mCons; rw [ha, bind_ok, hr]; rfl
theorem p_toE {m : Env → Res (List D)} {xs : List D} (h : m ρ = .ok xs) : toE m ρ = .ok (.lst xs) := by
  unfold toE; rw [h]; rfl
theorem p_tup {ms : Env → Res (List D)} {xs : List D} (h : ms ρ = .ok xs) (hl : Nat.ble xs.length 16777216 = true) : mTup ms ρ = .ok (.tup xs) := by
  unfold mTup; rw [h]
  show (if xs.length ≤ sizeLine then Res.ok (D.tup xs) else .bad) = _
  exact if_pos (Nat.le_of_ble_eq_true hl)
theorem p_lst {ms : Env → Res (List D)} {xs : List D} (h : ms ρ = .ok xs) (hl : Nat.ble xs.length 16777216 = true) : mLst ms ρ = .ok xs := by
  unfold mLst; rw [h]
  show (if xs.length ≤ sizeLine then Res.ok xs else .bad) = _
  exact if_pos (Nat.le_of_ble_eq_true hl)
theorem p_size {δ : Type} {xs : List D} {z : δ} (hl : Nat.ble xs.length 16777216 = true) : (if xs.length ≤ sizeLine then Res.ok z else .bad) = Res.ok z := if_pos (Nat.le_of_ble_eq_true hl)
theorem p_tst {m : Env → Res D} {b : Bool} (h : m ρ = .ok (enc b)) : mTst m ρ = .ok b := by unfold mTst; rw [h]; rfl
theorem p_not {t : Env → Res Bool} {b : Bool} (h : t ρ = .ok b) : mNot t ρ = .ok (!b) := by unfold mNot; rw [h]; rfl
theorem p_and {ta tb : Env → Res Bool} {a b : Bool} (h : ta ρ = .ok a) (h' : tb ρ = .ok b) : mAnd ta tb ρ = .ok (a && b) := by
  unfold mAnd; rw [h, bind_ok]
  cases a
  · rfl
  · exact h'
theorem p_or {ta tb : Env → Res Bool} {a b : Bool} (h : ta ρ = .ok a) (h' : tb ρ = .ok b) : mOr ta tb ρ = .ok (a || b) := by
  unfold mOr; rw [h, bind_ok]
  cases a
  · exact h'
  · rfl
theorem p_notV {m : Env → Res D} {b : Bool} (h : m ρ = .ok (enc b)) : mNotV m ρ = .ok (enc (!b)) := by unfold mNotV; rw [h]; rfl
theorem p_andV {ta tb : Env → Res D} {a b : Bool} (h : ta ρ = .ok (enc a)) (h' : tb ρ = .ok (enc b)) : mAndV ta tb ρ = .ok (enc (a && b)) := by
  unfold mAndV; rw [h]
  cases a
  · rfl
  · exact h'
theorem p_orV {ta tb : Env → Res D} {a b : Bool} (h : ta ρ = .ok (enc a)) (h' : tb ρ = .ok (enc b)) : mOrV ta tb ρ = .ok (enc (a || b)) := by
  unfold mOrV; rw [h]
  cases a
  · exact h'
  · rfl
theorem p_if {t : Env → Res Bool} {ma mb : Env → Res D} [Enc α] {c : Bool} {a b : α} (h : t ρ = .ok c) (ha : ma ρ = .ok (enc a)) (hb : mb ρ = .ok (enc b)) : mIf t ma mb ρ = .ok (enc (if c = true then a else b)) := by
  unfold mIf; rw [h]
  cases c
  · exact hb
  · exact ha
theorem p_chain {g g' : D → D → Res D} {ma mb mc : Env → Res D} {x y z : D} {a b : Bool} (h : ma ρ = .ok x) (h' : mb ρ = .ok y) (h2 : mc ρ = .ok z) (hg : g x y = .ok (enc a)) (hg' : g' y z = .ok (enc b)) : mChain g g' ma mb mc ρ = .ok (enc (a && b)) := by
  unfold mChain; rw [h, bind_ok, h', bind_ok, hg]
  cases a
  · rfl
  · show (mc ρ >>= fun z => g' y z) = _
    rw [h2]; exact hg'
theorem p_sl {δ : Type} {g : D → Option Int → Option Int → Res δ} {ma : Env → Res D} {ml mh : Env → Res (Option Int)} {x : D} {l u : Option Int} {z : δ} (h : ma ρ = .ok x) (h1 : ml ρ = .ok l) (h2 : mh ρ = .ok u) (hg : g x l u = .ok z) : mSl g ma ml mh ρ = .ok z := by
  unfold mSl; rw [h, bind_ok, h1, bind_ok, h2]; exact hg
theorem p_part {m : Env → Res D} {i : Int} (h : m ρ = .ok (enc i)) : mPart m ρ = .ok (some i) := by unfold mPart; rw [h]; rfl
theorem p_cmp {g : D → D → Res D} {x y z : D} (h : g x y = .ok z) : g x y = .ok z := h
theorem p_bnd {δ ε : Type} {r : Res δ} {g : δ → Res ε} {x : δ} {z : ε} (h : r = .ok x) (h' : g x = .ok z) : (r >>= g) = .ok z := by rw [h]; exact h'
/-! statements -/
theorem seqF_end (f : Flow) : seqF f Flow.nx = f := by cases f <;> rfl
theorem q_top {f : Flow} (h : Sim Q E (seqF f Flow.nx) T) : Sim Q E f T := by rw [seqF_end] at h; exact h
theorem seqF_as (f : Flow) (a b : Env → Flow) : seqF (seqF f a) b = seqF f fun ρ => seqF (a ρ) b := by cases f <;> rfl
theorem q_seq {m m' : Env → Flow} (h : Sim Q E (seqF (m ρ) fun ρ' => seqF (m' ρ') k) T) : Sim Q E (seqF (mSeq m m' ρ) k) T := by
  rw [mSeq_B, seqF_as]; exact h
theorem q_end (h : Sim Q E (k ρ) T) : Sim Q E (seqF (mEnd ρ) k) T := h
theorem seqF_bind {δ : Type} (r : Res δ) (f : δ → Flow) : seqF (bindF r ρ f) k = bindF r ρ fun d => seqF (f d) k := by cases r <;> rfl
theorem q_set {i : Nat} {m : Env → Res D} (h : Sim Q E (bindF (m ρ) ρ fun d => seqF (put i (.v (.d d)) ρ) k) T) : Sim Q E (seqF (mSet i m ρ) k) T := by
  unfold mSet; rw [seqF_bind]; exact h
theorem q_setO {i : Nat} {m : Env → Res (List D)} (h : Sim Q E (bindF (m ρ) ρ fun d => seqF (put i (.v (.ol d)) ρ) k) T) : Sim Q E (seqF (mSetO i m ρ) k) T := by
  unfold mSetO; rw [seqF_bind]; exact h
theorem q_put {i : Nat} {s : Sl} (ρ' : Env) (ho : okS ρ i = true) (e : ρ.set i s = ρ') (h : Sim Q E (k ρ') T) : Sim Q E (seqF (put i s ρ) k) T := by
  unfold put; rw [if_pos ho, e]; exact h
theorem q_letE {v : α} {F : α → Res γ} {K : Flow} (h : Sim Q E K (F v)) : Sim Q E K ((fun f : α → Res γ => f v) F) := h
theorem q_ex {δ : Type} {m : Env → Res δ} (h : Sim Q E (bindF (m ρ) ρ fun _ => k ρ) T) : Sim Q E (seqF (mEx m ρ) k) T := by
  unfold mEx; rw [seqF_bind]; exact h
theorem q_ret {m : Env → Res D} (h : Sim Q E (bindF (m ρ) ρ fun d => .rt d ρ) T) : Sim Q E (seqF (mRet m ρ) k) T := by
  unfold mRet; rw [seqF_bind]; exact h
theorem q_raise {x : Exc} (h : E ρ) : Sim Q E (seqF (mRaise x ρ) k) (.err x) := ⟨⟨ρ, rfl, h⟩⟩
theorem q_frz {i : Nat} {m : Env → Flow} (ρ' : Env) (e : frzE i ρ = ρ') (h : Sim Q E (seqF (m ρ') k) T) : Sim Q E (seqF (mFrz i m ρ) k) T := by
  unfold mFrz; rw [e]; exact h
theorem q_asg {g : D → Env → Option Env} {m : Env → Res D} (h : Sim Q E (bindF (m ρ) ρ fun d => optF (g d ρ) k) T) : Sim Q E (seqF (mAsg g m ρ) k) T := by
  have e : seqF (mAsg g m ρ) k = bindF (m ρ) ρ fun d => optF (g d ρ) k := by
    unfold mAsg; rw [seqF_bind]
    congr 1; funext d
    cases g d ρ <;> rfl
  rw [e]; exact h
theorem q_opt {o : Option Env} (ρ' : Env) (e : o = some ρ') (h : Sim Q E (k ρ') T) : Sim Q E (optF o k) T := by rw [e]; exact h
theorem q_par {i j : Nat} {ms : Env → Res (List D)} (h : Sim Q E (bindF (ms ρ) ρ fun ds => seqF (match ds with
  | [d, d2] => if okS ρ i = true ∧ okS (ρ.set i (.v (.d d))) j = true then .nx ((ρ.set i (.v (.d d))).set j (.v (.d d2))) else .bad
  | _ => .bad) k) T) : Sim Q E (seqF (mPar i j ms ρ) k) T := by
  unfold mPar; rw [seqF_bind]; exact h
theorem q_par2 {i j : Nat} {d d2 : D} (ρ' : Env) (h1 : okS ρ i = true) (h2 : okS (ρ.set i (.v (.d d))) j = true) (e : (ρ.set i (.v (.d d))).set j (.v (.d d2)) = ρ') (h : Sim Q E (k ρ') T) : Sim Q E (seqF (match [d, d2] with
  | [d, d2] => if okS ρ i = true ∧ okS (ρ.set i (.v (.d d))) j = true then .nx ((ρ.set i (.v (.d d))).set j (.v (.d d2))) else .bad
  | _ => .bad) k) T := by
  have z : (if okS ρ i = true ∧ okS (ρ.set i (.v (.d d))) j = true then Flow.nx ((ρ.set i (.v (.d d))).set j (.v (.d d2))) else .bad) = .nx ρ' := by rw [if_pos ⟨h1, h2⟩, e]
  show Sim Q E (seqF (if okS ρ i = true ∧ okS (ρ.set i (.v (.d d))) j = true then .nx ((ρ.set i (.v (.d d))).set j (.v (.d d2))) else .bad) k) T
  rw [z]; exact h
theorem q_lm {i : Nat} {g : List D → List D → Res (List D)} {ms : Env → Res (List D)} (xs : List D) (R : List D → Env) (e : ρ[i]? = some (.v (.ol xs))) (hR : ∀ ys, ρ.set i (.v (.ol ys)) = R ys) (h : Sim Q E (bindF (ms ρ) ρ fun ds => bindF (g xs ds) ρ fun ys => k (R ys)) T) : Sim Q E (seqF (mLm i g ms ρ) k) T := by
  rw [← funext hR] at h
  unfold mLm; rw [e]
  show Sim Q E (seqF (bindF (ms ρ) ρ fun ds => bindF (g xs ds) ρ fun ys => .nx (ρ.set i (.v (.ol ys)))) k) T
  rw [seqF_bind]
  have z : (fun ds => seqF (bindF (g xs ds) ρ fun ys => .nx (ρ.set i (.v (.ol ys)))) k) = fun ds => bindF (g xs ds) ρ fun ys => k (ρ.set i (.v (.ol ys))) := by
    funext ds; rw [seqF_bind]; rfl
  rw [z]; exact h
theorem q_setix {i : Nat} {mj me : Env → Res D} (xs : List D) (R : List D → Env) (e : ρ[i]? = some (.v (.ol xs))) (hR : ∀ ys, ρ.set i (.v (.ol ys)) = R ys) (h : Sim Q E (bindF (me ρ) ρ fun d => bindF (mj ρ) ρ fun j => bindF (setG xs j d) ρ fun ys => k (R ys)) T) : Sim Q E (seqF (mSetIx i mj me ρ) k) T := by
  rw [← funext hR] at h
  unfold mSetIx; rw [seqF_bind]
  refine Eq.mpr (congrArg (fun f => Sim Q E (bindF (me ρ) ρ f) T) (funext fun d => ?_)) h
  rw [e]
  show seqF (bindF (mj ρ) ρ fun j => bindF (setG xs j d) ρ fun ys => .nx (ρ.set i (.v (.ol ys)))) k = _
  rw [seqF_bind]
  congr 1; funext j
  rw [seqF_bind]; rfl
theorem q_slm {i c : Nat} {f : Str} {g : List D → List D → Res (List D)} {ms : Env → Res (List D)} (fs : List (Str × Fd)) (xs : List D) (R : List D → Env) (e : ρ[i]? = some (.oo c fs)) (e2 : fs.lookup f = some (.ol xs)) (hR : ∀ ys, ρ.set i (.oo c (putFd f (.ol ys) fs)) = R ys) (h : Sim Q E (bindF (ms ρ) ρ fun ds => bindF (g xs ds) ρ fun ys => k (R ys)) T) : Sim Q E (seqF (mSelfLm i c f g ms ρ) k) T := by
  rw [← funext hR] at h
  unfold mSelfLm; rw [e]
  show Sim Q E (seqF (if c = c then (match fs.lookup f with
    | some (.ol xs) => bindF (ms ρ) ρ fun ds => bindF (g xs ds) ρ fun ys => .nx (ρ.set i (.oo c (putFd f (.ol ys) fs)))
    | _ => .bad) else .bad) k) T
  rw [if_pos rfl, e2]
  show Sim Q E (seqF (bindF (ms ρ) ρ fun ds => bindF (g xs ds) ρ fun ys => .nx (ρ.set i (.oo c (putFd f (.ol ys) fs)))) k) T
  rw [seqF_bind]
  have z : (fun ds => seqF (bindF (g xs ds) ρ fun ys => .nx (ρ.set i (.oo c (putFd f (.ol ys) fs)))) k) = fun ds => bindF (g xs ds) ρ fun ys => k (ρ.set i (.oo c (putFd f (.ol ys) fs))) := by
    funext ds; rw [seqF_bind]; rfl
  rw [z]; exact h
theorem q_sset {i c : Nat} {f : Str} {m : Env → Res D} (fs : List (Str × Fd)) (R : D → Env) (e : ρ[i]? = some (.oo c fs)) (hl : Nat.blt fs.length 1000 = true) (hR : ∀ d, ρ.set i (.oo c (putFd f (.d d) fs)) = R d) (h : Sim Q E (bindF (m ρ) ρ fun d => k (R d)) T) : Sim Q E (seqF (mSelfSet i c f m ρ) k) T := by
  rw [← funext hR] at h
  unfold mSelfSet; rw [seqF_bind]
  refine Eq.mpr (congrArg (fun f => Sim Q E (bindF (m ρ) ρ f) T) (funext fun d => ?_)) h
  rw [e]
  show seqF (if c = c ∧ fs.length < 1000 then .nx (ρ.set i (.oo c (putFd f (.d d) fs))) else .bad) k = _
  rw [if_pos ⟨rfl, Nat.le_of_ble_eq_true hl⟩]; rfl
theorem q_ssetO {i c : Nat} {f : Str} {m : Env → Res (List D)} (fs : List (Str × Fd)) (R : List D → Env) (e : ρ[i]? = some (.oo c fs)) (hl : Nat.blt fs.length 1000 = true) (hR : ∀ d, ρ.set i (.oo c (putFd f (.ol d) fs)) = R d) (h : Sim Q E (bindF (m ρ) ρ fun d => k (R d)) T) : Sim Q E (seqF (mSelfSetO i c f m ρ) k) T := by
  rw [← funext hR] at h
  unfold mSelfSetO; rw [seqF_bind]
  refine Eq.mpr (congrArg (fun f => Sim Q E (bindF (m ρ) ρ f) T) (funext fun d => ?_)) h
  rw [e]
  show seqF (if c = c ∧ fs.length < 1000 then .nx (ρ.set i (.oo c (putFd f (.ol d) fs))) else .bad) k = _
  rw [if_pos ⟨rfl, Nat.le_of_ble_eq_true hl⟩]; rfl
/-! ifs -/
theorem q_if {t : Env → Res Bool} {m m' : Env → Flow} (h : Sim Q E (bindF (t ρ) ρ fun b => seqF (if b = true then m ρ else m' ρ) k) T) : Sim Q E (seqF (mIfS t m m' ρ) k) T := by
  rw [mIfS_B, seqF_bind]; exact h
theorem q_ite {c : Bool} {f f' : Flow} {T' : Res γ} (h : c = true → Sim Q E (seqF f k) T) (h' : c = false → Sim Q E (seqF f' k) T') : Sim Q E (seqF (if c = true then f else f') k) (if c = true then T else T') := by
  cases c
  · exact h' rfl
  · exact h rfl
theorem q_join {I : σ → Env → Prop} {f : Flow} {t : Res σ} {S : σ → Res γ} (h : Sim (QN I) E (seqF f Flow.nx) t) (hk : ∀ s ρ, I s ρ → Sim Q E (k ρ) (S s)) : Sim Q E (seqF f k) (t >>= S) := by
  rw [seqF_end] at h
  have h := h.run
  cases t with
  | ok s =>
    obtain ⟨ρ', rfl, hI⟩ := h
    exact hk s ρ' hI
  | err x =>
    obtain ⟨ρ', rfl, hE⟩ := h
    exact ⟨⟨ρ', rfl, hE⟩⟩
  | bad => exact ⟨trivial⟩
def onF {R σ γ : Type} (t : Res (Fl R σ)) (a : R → Res γ) (b : σ → Res γ) : Res γ := t >>= fun r => match r with
  | .ret r => a r
  | .nxt s => b s
theorem q_joinR {R : Type} [Enc R] {I : σ → Env → Prop} {f : Flow} {t : Res (Fl R σ)} {A : R → Res γ} {S : σ → Res γ} (h : Sim (QL I) E (seqF f Flow.nx) t) (hr : ∀ r ρ, Sim Q E (.rt (enc r) ρ) (A r)) (hk : ∀ s ρ, I s ρ → Sim Q E (k ρ) (S s)) : Sim Q E (seqF f k) (onF t A S) := by
  rw [seqF_end] at h
  have h := h.run
  cases t with
  | ok s =>
    cases s with
    | ret r =>
      obtain ⟨ρ', rfl⟩ := h
      exact hr r ρ'
    | nxt s =>
      obtain ⟨ρ', rfl, hI⟩ := h
      exact hk s ρ' hI
  | err x =>
    obtain ⟨ρ', rfl, hE⟩ := h
    exact ⟨⟨ρ', rfl, hE⟩⟩
  | bad => exact ⟨trivial⟩
theorem s_nx {I : σ → Env → Prop} {s : σ} (h : I s ρ) : Sim (QN I) E (Flow.nx ρ) (.ok s) := ⟨⟨ρ, rfl, h⟩⟩
theorem s_nxR {R : Type} [Enc R] {I : σ → Env → Prop} {s : σ} (h : I s ρ) : Sim (QL (R := R) I) E (Flow.nx ρ) (.ok (.nxt s)) := ⟨⟨ρ, rfl, h⟩⟩
theorem s_rtR {R : Type} [Enc R] {I : σ → Env → Prop} {d : D} (r : R) (h : d = enc r) : Sim (QL (R := R) I) E (Flow.rt d ρ) (.ok (.ret r)) := ⟨⟨ρ, by rw [h]⟩⟩
theorem s_rt [Enc α] {d : D} (a : α) (h : d = enc a) : Sim QF E (Flow.rt d ρ) (.ok a) := ⟨.inl ⟨ρ, by rw [h]⟩⟩
theorem s_rt0 [Enc α] (a : α) (ρ : Env) : Sim QF E (Flow.rt (enc a) ρ) (.ok a) := ⟨.inl ⟨ρ, rfl⟩⟩
theorem s_rtR0 {R : Type} [Enc R] {I : σ → Env → Prop} (r : R) (ρ : Env) : Sim (QL (R := R) I) E (Flow.rt (enc r) ρ) (.ok (.ret r)) := ⟨⟨ρ, rfl⟩⟩
theorem s_nF [Enc α] (a : α) (h : enc a = .non) : Sim QF E (Flow.nx ρ) (.ok a) := ⟨.inr ⟨h, ρ, rfl⟩⟩
/-! loops -/
def foldT (f : α → σ → Res σ) : List α → σ → Res σ
  | [], s => .ok s
  | x :: xs, s => f x s >>= foldT f xs
def forT {R : Type} (f : α → σ → Res (Fl R σ)) : List α → σ → Res (Fl R σ)
  | [], s => .ok (.nxt s)
  | x :: xs, s => onF (f x s) (fun r => .ok (.ret r)) (forT f xs)
def whileT (c : σ → Res Bool) (f : σ → Res σ) : Nat → σ → Res σ
  | 0, _ => .bad
  | n + 1, s => c s >>= fun b => if b = true then f s >>= whileT c f n else .ok s
def whileR {R : Type} (c : σ → Res Bool) (f : σ → Res (Fl R σ)) : Nat → σ → Res (Fl R σ)
  | 0, _ => .bad
  | n + 1, s => c s >>= fun b => if b = true then onF (f s) (fun r => .ok (.ret r)) (whileR c f n) else .ok (.nxt s)
theorem q_for {mi : Env → Res (List D)} {g : D → Env → Option Env} {mb : Env → Flow} (h : Sim Q E (bindF (mi ρ) ρ fun xs => seqF (forL g mb xs ρ) k) T) : Sim Q E (seqF (mFor mi g mb ρ) k) T := by
  unfold mFor; rw [seqF_bind]; exact h
theorem foldT_sim [Enc α] {I : σ → Env → Prop} {g : D → Env → Option Env} {mb : Env → Flow} {f : α → σ → Res σ}
    (hb : ∀ x s ρ, I s ρ → Sim (QN I) E (optF (g (enc x) ρ) fun ρ1 => seqF (mb ρ1) Flow.nx) (f x s)) : ∀ (xs : List α) (s : σ) (ρ : Env), I s ρ → Sim (QN I) E (seqF (forL g mb (encs xs) ρ) Flow.nx) (foldT f xs s)
  | [], s, ρ, h => ⟨⟨ρ, rfl, h⟩⟩
  | x :: xs, s, ρ, h => by
    have h1 := hb x s ρ h
    have e : seqF (forL g mb (encs (x :: xs)) ρ) Flow.nx = seqF (optF (g (enc x) ρ) fun ρ1 => seqF (mb ρ1) Flow.nx) fun ρ2 => seqF (forL g mb (encs xs) ρ2) Flow.nx := by
      have e1 : encs (x :: xs) = enc x :: encs xs := rfl
      rw [e1, forL_c, seqF_end]
      cases g (enc x) ρ with
      | none => rfl
      | some ρ1 =>
        rw [optF_some, optF_some, seqF_end]
        congr 1; funext ρ2; rw [seqF_end]
    rw [e]
    exact q_join (by rw [seqF_end]; exact h1) fun s' ρ' h' => foldT_sim hb xs s' ρ' h'
theorem q_fold [Enc α] {I : σ → Env → Prop} {g : D → Env → Option Env} {mb : Env → Flow} {f : α → σ → Res σ} {xs : List α} {s0 : σ} {S : σ → Res γ} (h0 : I s0 ρ)
    (hb : ∀ x s ρ, I s ρ → Sim (QN I) E (optF (g (enc x) ρ) fun ρ1 => seqF (mb ρ1) Flow.nx) (f x s)) (hk : ∀ s ρ, I s ρ → Sim Q E (k ρ) (S s)) : Sim Q E (seqF (forL g mb (encs xs) ρ) k) (foldT f xs s0 >>= S) :=
  q_join (foldT_sim hb xs s0 ρ h0) hk
theorem forT_sim {R : Type} [Enc R] [Enc α] {I : σ → Env → Prop} {g : D → Env → Option Env} {mb : Env → Flow} {f : α → σ → Res (Fl R σ)}
    (hb : ∀ x s ρ, I s ρ → Sim (QL I) E (optF (g (enc x) ρ) fun ρ1 => seqF (mb ρ1) Flow.nx) (f x s)) : ∀ (xs : List α) (s : σ) (ρ : Env), I s ρ → Sim (QL I) E (seqF (forL g mb (encs xs) ρ) Flow.nx) (forT f xs s)
  | [], s, ρ, h => ⟨⟨ρ, rfl, h⟩⟩
  | x :: xs, s, ρ, h => by
    have h1 := hb x s ρ h
    have e : seqF (forL g mb (encs (x :: xs)) ρ) Flow.nx = seqF (optF (g (enc x) ρ) fun ρ1 => seqF (mb ρ1) Flow.nx) fun ρ2 => seqF (forL g mb (encs xs) ρ2) Flow.nx := by
      have e1 : encs (x :: xs) = enc x :: encs xs := rfl
      rw [e1, forL_c, seqF_end]
      cases g (enc x) ρ with
      | none => rfl
      | some ρ1 =>
        rw [optF_some, optF_some, seqF_end]
        congr 1; funext ρ2; rw [seqF_end]
    rw [e]
    exact q_joinR (by rw [seqF_end]; exact h1) (fun r ρ => ⟨⟨ρ, rfl⟩⟩) fun s' ρ' h' => forT_sim hb xs s' ρ' h'
theorem q_forR {R : Type} [Enc R] [Enc α] {I : σ → Env → Prop} {g : D → Env → Option Env} {mb : Env → Flow} {f : α → σ → Res (Fl R σ)} {xs : List α} {s0 : σ} {A : R → Res γ} {S : σ → Res γ} (h0 : I s0 ρ)
    (hb : ∀ x s ρ, I s ρ → Sim (QL I) E (optF (g (enc x) ρ) fun ρ1 => seqF (mb ρ1) Flow.nx) (f x s)) (hr : ∀ r ρ, Sim Q E (.rt (enc r) ρ) (A r)) (hk : ∀ s ρ, I s ρ → Sim Q E (k ρ) (S s)) : Sim Q E (seqF (forL g mb (encs xs) ρ) k) (onF (forT f xs s0) A S) :=
  q_joinR (forT_sim hb xs s0 ρ h0) hr hk
theorem whileT_sim {I : σ → Env → Prop} {mc : Env → Res Bool} {mb : Env → Flow} {c : σ → Res Bool} {f : σ → Res σ} (hI : ∀ s ρ, I s ρ → E ρ) (hc : ∀ s ρ, I s ρ → Le id (mc ρ) (c s))
    (hb : ∀ s ρ, I s ρ → Sim (QN I) E (seqF (mb ρ) Flow.nx) (f s)) : ∀ (n : Nat) (s : σ) (ρ : Env), I s ρ → Sim (QN I) E (seqF (whileL mc mb n ρ) Flow.nx) (whileT c f n s)
  | 0, s, ρ, h => ⟨trivial⟩
  | n + 1, s, ρ, h => by
    have e : seqF (whileL mc mb (n + 1) ρ) Flow.nx = bindF (mc ρ) ρ fun b => if b = true then seqF (mb ρ) fun ρ' => seqF (whileL mc mb n ρ') Flow.nx else .nx ρ := by
      rw [seqF_end]
      show (bindF (mc ρ) ρ fun k => match k with
        | true => match mb ρ with
          | .nx ρ' => whileL mc mb n ρ'
          | f => f
        | false => .nx ρ) = _
      congr 1; funext b
      cases b
      · rfl
      · rw [if_pos rfl]
        show (match mb ρ with
          | .nx ρ' => whileL mc mb n ρ'
          | f => f) = _
        cases mb ρ with
        | nx ρ1 =>
          show whileL mc mb n ρ1 = seqF (whileL mc mb n ρ1) Flow.nx
          rw [seqF_end]
        | _ => rfl
    rw [e]
    refine c_leaf (hc s ρ h) (hI s ρ h) fun b => ?_
    cases b
    · exact ⟨⟨ρ, rfl, h⟩⟩
    · exact q_join (hb s ρ h) fun s' ρ' h' => whileT_sim hI hc hb n s' ρ' h'
theorem q_while {I : σ → Env → Prop} {mc : Env → Res Bool} {mb : Env → Flow} {c : σ → Res Bool} {f : σ → Res σ} {n : Nat} {s0 : σ} {S : σ → Res γ} (h0 : I s0 ρ) (hI : ∀ s ρ, I s ρ → E ρ) (hc : ∀ s ρ, I s ρ → Le id (mc ρ) (c s))
    (hb : ∀ s ρ, I s ρ → Sim (QN I) E (seqF (mb ρ) Flow.nx) (f s)) (hk : ∀ s ρ, I s ρ → Sim Q E (k ρ) (S s)) : Sim Q E (seqF (whileL mc mb n ρ) k) (whileT c f n s0 >>= S) :=
  q_join (whileT_sim hI hc hb n s0 ρ h0) hk
/-! comprehensions -/
def compT (p : α → Res Bool) (f : α → Res β) : List α → Res (List β)
  | [] => .ok []
  | x :: xs => nerr (p x) >>= fun b => if b = true then nerr (f x) >>= fun d => compT p f xs >>= fun ds => .ok (d :: ds) else compT p f xs
def compS (p : α → Res Bool) (f : α → Res β) (xs : List α) : Res (List β) := if xs.length ≤ 16777216 then compT p f xs else .bad
def compM (r : Res (List D)) (xs : List D) : Res (List D) := if xs.length ≤ sizeLine then r else .bad
theorem c_comp {vs : List Nat} {mi : Env → Res (List D)} {g : D → Env → Option Env} {mt : Env → Res Bool} {me : Env → Res D} {K : List D → Flow} (h : Sim Q E (bindF (mi ρ) ρ fun xs => bindF (compM (compL g mt me (wipeE ρ vs) xs) xs) ρ K) T) : Sim Q E (bindF (mComp vs mi g mt me ρ) ρ K) T := by
  have e : bindF (mComp vs mi g mt me ρ) ρ K = bindF (mi ρ) ρ fun xs => bindF (compM (compL g mt me (wipeE ρ vs) xs) xs) ρ K := by
    rw [mComp_B, bindF_as]; rfl
  rw [e]; exact h
theorem le_compT [Enc α] [Enc β] {g : D → Env → Option Env} {mt : Env → Res Bool} {me : Env → Res D} {p : α → Res Bool} {f : α → Res β} (e1 : α → Env) (hg : ∀ x, g (enc x) ρ = some (e1 x)) (hp : ∀ x, Le id (mt (e1 x)) (p x)) (hf : ∀ x, Le enc (me (e1 x)) (f x)) : ∀ xs : List α, Le encs (compL g mt me ρ (encs xs)) (compT p f xs)
  | [] => ⟨rfl⟩
  | x :: xs => by
    have ih := le_compT e1 hg hp hf xs
    have e : compL g mt me ρ (encs (x :: xs)) = optR (g (enc x) ρ) fun ρ1 => nerr (mt ρ1) >>= fun b => if b = true then nerr (me ρ1) >>= fun d => compL g mt me ρ (encs xs) >>= fun ds => .ok (d :: ds) else compL g mt me ρ (encs xs) := compL_c ..
    rw [e, hg x, optR_some]
    show Le encs _ (nerr (p x) >>= fun b => if b = true then nerr (f x) >>= fun d => compT p f xs >>= fun ds => .ok (d :: ds) else compT p f xs)
    have h1 := hp x
    have h2 := hf x
    generalize p x = P at h1 ⊢
    generalize f x = Fx at h2 ⊢
    cases P with
    | ok b =>
      have h1 : mt (e1 x) = .ok b := h1.g
      rw [h1]
      show Le encs (if b = true then nerr (me (e1 x)) >>= fun d => compL g mt me ρ (encs xs) >>= fun ds => .ok (d :: ds) else compL g mt me ρ (encs xs)) (if b = true then nerr Fx >>= fun d => compT p f xs >>= fun ds => .ok (d :: ds) else compT p f xs)
      cases b
      · exact ih
      · rw [if_pos rfl, if_pos rfl]
        cases Fx with
        | ok y =>
          have h2 : me (e1 x) = .ok (enc y) := h2.g
          rw [h2]
          show Le encs (compL g mt me ρ (encs xs) >>= fun ds => .ok (enc y :: ds)) (compT p f xs >>= fun ds => .ok (y :: ds))
          generalize compT p f xs = C at ih ⊢
          cases C with
          | ok ys =>
            have ih : compL g mt me ρ (encs xs) = .ok (encs ys) := ih.g
            rw [ih]; exact ⟨rfl⟩
          | err z =>
            have ih : compL g mt me ρ (encs xs) = .err z := ih.g
            rw [ih]; exact ⟨rfl⟩
          | bad => exact ⟨trivial⟩
        | err z => exact ⟨trivial⟩
        | bad => exact ⟨trivial⟩
    | err z => exact ⟨trivial⟩
    | bad => exact ⟨trivial⟩
theorem le_comp [Enc α] [Enc β] {vs : List Nat} {g : D → Env → Option Env} {mt : Env → Res Bool} {me : Env → Res D} {p : α → Res Bool} {f : α → Res β} {xs : List α} (ρ0 : Env) (hw : wipeE ρ vs = ρ0) (e1 : α → Env) (hg : ∀ x, g (enc x) ρ0 = some (e1 x)) (hp : ∀ x, Le id (mt (e1 x)) (p x)) (hf : ∀ x, Le enc (me (e1 x)) (f x)) : Le encs (compM (compL g mt me (wipeE ρ vs) (encs xs)) (encs xs)) (compS p f xs) := by
  unfold compS compM
  rw [List.length_map, hw, szl]
  by_cases h : xs.length ≤ 16777216
  · rw [if_pos h, if_pos h]; exact le_compT e1 hg hp hf xs
  · rw [if_neg h, if_neg h]; exact ⟨trivial⟩
theorem compT_pure (p : α → Bool) (f : α → β) : ∀ xs : List α, compT (fun x => .ok (p x)) (fun x => .ok (f x)) xs = .ok ((xs.filter p).map f)
  | [] => rfl
  | x :: xs => by
    show (Res.ok (p x) >>= fun b => if b = true then (Res.ok (f x) >>= fun d => compT (fun x => .ok (p x)) (fun x => .ok (f x)) xs >>= fun ds => .ok (d :: ds)) else compT (fun x => .ok (p x)) (fun x => .ok (f x)) xs) = _
    rw [compT_pure p f xs, bind_ok]
    by_cases h : p x = true
    · rw [if_pos h, List.filter_cons, if_pos h]; rfl
    · rw [if_neg h, List.filter_cons, if_neg h]
theorem compS_pure (p : α → Bool) (f : α → β) (xs : List α) (h : xs.length ≤ 16777216) : compS (fun x => .ok (p x)) (fun x => .ok (f x)) xs = .ok ((xs.filter p).map f) := by
  unfold compS; rw [if_pos h, compT_pure]
theorem compT_map (f : α → β) : ∀ xs : List α, compT (fun _ => .ok true) (fun x => .ok (f x)) xs = .ok (xs.map f) := fun xs => by
  rw [compT_pure (fun _ => true) f xs, List.filter_eq_self.mpr fun _ _ => rfl]
theorem compS_map (f : α → β) (xs : List α) (h : xs.length ≤ 16777216) : compS (fun _ => .ok true) (fun x => .ok (f x)) xs = .ok (xs.map f) := by
  unfold compS; rw [if_pos h, compT_map]
theorem compT_all {p : α → Res Bool} {f : α → Res β} (P : α → Bool) (F : α → β) : ∀ xs : List α, (∀ x ∈ xs, p x = .ok (P x)) → (∀ x ∈ xs, P x = true → f x = .ok (F x)) → compT p f xs = .ok ((xs.filter P).map F)
  | [], _, _ => rfl
  | x :: xs, hp, hf => by
    show (nerr (p x) >>= fun b => if b = true then (nerr (f x) >>= fun d => compT p f xs >>= fun ds => .ok (d :: ds)) else compT p f xs) = _
    rw [compT_all P F xs (fun y hy => hp y (List.mem_cons_of_mem _ hy)) (fun y hy => hf y (List.mem_cons_of_mem _ hy)), hp x (List.mem_cons_self ..), nerr_ok, bind_ok]
    by_cases h : P x = true
    · rw [if_pos h, List.filter_cons, if_pos h, hf x (List.mem_cons_self ..) h]; rfl
    · rw [if_neg h, List.filter_cons, if_neg h]
theorem compS_all {p : α → Res Bool} {f : α → Res β} (P : α → Bool) (F : α → β) (xs : List α) (h : xs.length ≤ 16777216) (hp : ∀ x ∈ xs, p x = .ok (P x)) (hf : ∀ x ∈ xs, P x = true → f x = .ok (F x)) : compS p f xs = .ok ((xs.filter P).map F) := by
  unfold compS; rw [if_pos h, compT_all P F xs hp hf]
theorem compS_allm {f : α → Res β} (F : α → β) (xs : List α) (h : xs.length ≤ 16777216) (hf : ∀ x ∈ xs, f x = .ok (F x)) : compS (fun _ => .ok true) f xs = .ok (xs.map F) := by
  rw [compS_all (fun _ => true) F xs h (fun _ _ => rfl) (fun x hx _ => hf x hx), List.filter_eq_self.mpr fun _ _ => rfl]
/-! try -/
def tryT {γ : Type} (cs : List Nat) (c : Nat) (A B : Res γ) : Res γ := match A with
  | .err x => if x.cl ∈ cs then (if x.cl = c then nerr B else .err x) else .bad
  | r => r
theorem q_try {E' : Env → Prop} {cs : List Nat} {c : Nat} {m m2 : Env → Flow} {A B : Res γ} (hQ : ∀ g x ρ, ¬ Q g (.er x ρ)) (hQb : ∀ g, ¬ Q g .bad) (hA : Sim Q E' (seqF (m ρ) Flow.nx) A) (hB : ∀ ρ', E' ρ' → Sim Q tt (seqF (m2 ρ') Flow.nx) B) (hE : ∀ ρ', E' ρ' → E ρ') : Sim Q E (seqF (mTry cs c m m2 ρ) Flow.nx) (tryT cs c A B) := by
  rw [seqF_end] at hA ⊢
  have hA := hA.run
  refine ⟨?_⟩
  unfold mTry tryT
  cases A with
  | ok g =>
    have hA : Q g (m ρ) := hA
    cases q : m ρ with
    | er x ρ' => rw [q] at hA; exact absurd hA (hQ g x ρ')
    | nx ρ' => rw [q] at hA; exact hA
    | rt d ρ' => rw [q] at hA; exact hA
    | bad => rw [q] at hA; exact absurd hA (hQb g)
  | err x =>
    obtain ⟨ρ', q, hE'⟩ := hA
    rw [q]
    show SimD Q E (if x.cl ∈ cs then (if x.cl = c then nerrF (m2 ρ') else .er x ρ') else .bad) (if x.cl ∈ cs then (if x.cl = c then nerr B else .err x) else .bad)
    by_cases h1 : x.cl ∈ cs
    · rw [if_pos h1, if_pos h1]
      by_cases h2 : x.cl = c
      · rw [if_pos h2, if_pos h2]
        have hB := hB ρ' hE'
        rw [seqF_end] at hB
        have hB := hB.run
        cases B with
        | ok g =>
          have hB : Q g (m2 ρ') := hB
          show Q g (nerrF (m2 ρ'))
          cases q2 : m2 ρ' with
          | er x ρ' => rw [q2] at hB; exact absurd hB (hQ g x ρ')
          | nx ρ' => rw [q2] at hB; exact hB
          | rt d ρ' => rw [q2] at hB; exact hB
          | bad => rw [q2] at hB; exact absurd hB (hQb g)
        | err y => trivial
        | bad => trivial
      · rw [if_neg h2, if_neg h2]; exact ⟨ρ', rfl, hE ρ' hE'⟩
    · rw [if_neg h1, if_neg h1]; trivial
  | bad => trivial
theorem hq_n {I : σ → Env → Prop} : ∀ g x ρ, ¬ QN I g (.er x ρ) := fun g x ρ ⟨_, h, _⟩ => by cases h
theorem hq_nb {I : σ → Env → Prop} : ∀ g, ¬ QN I g .bad := fun g ⟨_, h, _⟩ => by cases h
theorem hq_l {R : Type} [Enc R] {I : σ → Env → Prop} : ∀ (g : Fl R σ) x ρ, ¬ QL I g (.er x ρ) := fun g x ρ h => by
  cases g with
  | ret r => obtain ⟨_, h⟩ := h; cases h
  | nxt s => obtain ⟨_, h, _⟩ := h; cases h
theorem hq_lb {R : Type} [Enc R] {I : σ → Env → Prop} : ∀ (g : Fl R σ), ¬ QL I g .bad := fun g h => by
  cases g with
  | ret r => obtain ⟨_, h⟩ := h; cases h
  | nxt s => obtain ⟨_, h, _⟩ := h; cases h
/-! defs -/
theorem le_fn [Enc α] {l : Nat} {b : Env → Flow} {ds : List D} {t : Res α} (ρ : Env) (e : startE l ds = ρ) (h : Sim QF tt (seqF (b ρ) Flow.nx) t) : Le enc (runD l b ds) t := by
  rw [seqF_end] at h
  have h := h.run
  rw [runD_B, e]
  refine ⟨?_⟩
  cases t with
  | ok a =>
    rcases h with ⟨ρ', h⟩ | ⟨h0, ρ', h⟩
    · rw [h]; rfl
    · rw [h]
      show Res.ok D.non = .ok (enc a)
      rw [h0]
  | err x =>
    obtain ⟨ρ', h, _⟩ := h
    rw [h]; rfl
  | bad => trivial
theorem le_in {l c : Nat} {b : Env → Flow} {ds : List D} {fs : α → List D} {t : Res α} (ρ : Env) (e : startI l c ds = ρ) (h : Sim (QI c fs) tt (seqF (b ρ) Flow.nx) t) : Le fs (runI l c b ds) t := by
  rw [seqF_end] at h
  have h := h.run
  rw [runI_B, e]
  refine ⟨?_⟩
  cases t with
  | ok a =>
    obtain ⟨ρ', h, h2⟩ := h
    rw [h]; exact h2
  | err x =>
    obtain ⟨ρ', h, _⟩ := h
    rw [h]; rfl
  | bad => trivial
theorem s_in {c : Nat} {fs : α → List D} {ff : List (Str × Fd)} {l : Env} (a : α) (h : ff.map (·.1) = flds c) (h2 : ff.map (fun p => fdD p.2) = fs a) : Sim (QI c fs) E (Flow.nx (.oo c ff :: l)) (.ok a) := by
  refine ⟨⟨_, rfl, ?_⟩⟩
  show (if c = c ∧ ff.map (·.1) = flds c then Res.ok (ff.map fun p => fdD p.2) else .bad) = _
  rw [if_pos ⟨rfl, h⟩, h2]
/-- a slot of which nothing is known but that it may be stored -/
def fre (s : Sl) : Prop := okS [s] 0 = true
theorem fre_v (x : Fd) : fre (.v x) := rfl
theorem fre_no : fre .no := rfl
theorem ok_fre {ρ : Env} {i : Nat} {s : Sl} (h : ρ[i]? = some s) (f : fre s) : okS ρ i = true := by
  unfold okS; rw [h]; exact f
theorem g_n {i : Nat} {d : D} {ρ ρ' : Env} (h : okS ρ i = true) (e : ρ.set i (.v (.d d)) = ρ') : gN i d ρ = some ρ' := by
  unfold gN; rw [if_pos h, e]
theorem g_q {gs : List D → Env → Option Env} {ds : List D} {d : D} {ρ ρ' : Env} (hd : d = .tup ds) (h : gs ds ρ = some ρ') : gQ gs d ρ = some ρ' := by rw [hd]; exact h
theorem g_ql {gs : List D → Env → Option Env} {ds : List D} {d : D} {ρ ρ' : Env} (hd : d = .lst ds) (h : gs ds ρ = some ρ') : gQ gs d ρ = some ρ' := by rw [hd]; exact h
theorem g_s {g : D → Env → Option Env} {gs : List D → Env → Option Env} {d : D} {ds : List D} {ρ ρ1 ρ' : Env} (h : g d ρ = some ρ1) (h' : gs ds ρ1 = some ρ') : gSc g gs (d :: ds) ρ = some ρ' := by
  show (match g d ρ with
    | some ρ1 => gs ds ρ1
    | none => none) = _
  rw [h]; exact h'
theorem g_0 {ρ : Env} : gS0 [] ρ = some ρ := rfl
end
end Cr
/-! Tl, part 3: typed operations. -/
namespace Cr
open PySem L2
section
variable {α β : Type} [Enc α] [Enc β]
def idxT {α : Type} (xs : List α) (i : Int) : Res α := opt (atI xs i)
theorem atI_mp {α β : Type} (f : α → β) (xs : List α) (i : Int) : atI (xs.map f) i = (atI xs i).map f := by
  unfold L2.atI
  rw [List.length_map]
  cases ixN xs.length i with
  | none => rfl
  | some j => simp
theorem le_opt {δ : Type} {e : α → δ} (o : Option α) : Le e (opt (o.map e)) (opt o) := by
  cases o
  · exact ⟨trivial⟩
  · exact ⟨rfl⟩
theorem le_idx (xs : List α) (i : Int) : Le enc (idxD (enc xs) (enc i)) (idxT xs i) := by
  show Le enc (opt (atI (xs.map Enc.en) i)) (opt (atI xs i))
  rw [atI_mp]; exact le_opt _
theorem le_idxt (xs : TL α) (i : Int) : Le enc (idxD (enc xs) (enc i)) (idxT xs.l i) := by
  show Le enc (opt (atI (xs.l.map Enc.en) i)) (opt (atI xs.l i))
  rw [atI_mp]; exact le_opt _
theorem le_idxs (xs : Scr) (i : Int) : Le enc (idxD (enc xs) (enc i)) (idxT xs.l i) := by
  show Le enc (opt ((atI xs.l i).map D.int)) (opt (atI xs.l i))
  exact le_opt _
def mulT (a b : Int) : Res Int := if mulOk a b then .ok (a * b) else .bad
def fdivT (a b : Int) : Res Int := if divOk a b then .ok (a / b) else .bad
def modT (a b : Int) : Res Int := if 0 < b then .ok (a % b) else .bad
def powT (a b : Int) : Res Int := if powOk a b then .ok (a ^ b.toNat) else .bad
def shlT (a b : Int) : Res Int := if powOk a b then .ok (a * 2 ^ b.toNat) else .bad
def shrT (a b : Int) : Res Int := if 0 ≤ b then .ok (a / 2 ^ b.toNat) else .bad
theorem le_ite {δ : Type} {e : α → δ} {c : Prop} [Decidable c] {a : α} {d : δ} (h : d = e a) : Le e (if c then Res.ok d else .bad) (if c then Res.ok a else .bad) := by
  by_cases hc : c
  · rw [if_pos hc, if_pos hc]; exact ⟨congrArg _ h⟩
  · rw [if_neg hc, if_neg hc]; exact ⟨trivial⟩
theorem le_ite' {δ : Type} {e : α → δ} {c c' : Prop} [Decidable c] [Decidable c'] {a : α} {d : δ} (hc : c ↔ c') (h : d = e a) : Le e (if c then Res.ok d else .bad) (if c' then Res.ok a else .bad) := by
  by_cases q : c
  · rw [if_pos q, if_pos (hc.mp q)]; exact ⟨congrArg _ h⟩
  · rw [if_neg q, if_neg fun z => q (hc.mpr z)]; exact ⟨trivial⟩
theorem le_mul (a b : Int) : Le enc (mulD (enc a) (enc b)) (mulT a b) := le_ite rfl
theorem le_fdiv (a b : Int) : Le enc (fdivD (enc a) (enc b)) (fdivT a b) := le_ite rfl
theorem le_mod (a b : Int) : Le enc (modD (enc a) (enc b)) (modT a b) := le_ite rfl
theorem le_pow (a b : Int) : Le enc (powD (enc a) (enc b)) (powT a b) := le_ite rfl
theorem le_shl (a b : Int) : Le enc (shlD (enc a) (enc b)) (shlT a b) := le_ite rfl
theorem le_shr (a b : Int) : Le enc (shrD (enc a) (enc b)) (shrT a b) := le_ite rfl
def bitsI (i : Int) : Int := (Builtin.Int.intBits i : Nat)
/-! with a constant on one side -/
theorem k_mulr (a b : Int) (h : decide (-18446744073709551616 < b ∧ b < 18446744073709551616) = true) : mulD (enc a) (enc b) = .ok (enc (a * b)) := mulD_r a b (of_decide_eq_true h)
theorem k_mull (a b : Int) (h : decide (-18446744073709551616 < a ∧ a < 18446744073709551616) = true) : mulD (enc a) (enc b) = .ok (enc (a * b)) := mulD_l a b (of_decide_eq_true h)
theorem k_mod (a b : Int) (h : decide (0 < b) = true) : modD (enc a) (enc b) = .ok (enc (a % b)) := modD_p a b (of_decide_eq_true h)
theorem k_fdiv (a b : Int) (h : decide (0 < b ∧ b < 18446744073709551616) = true) : fdivD (enc a) (enc b) = .ok (enc (a / b)) := fdivD_p a b (of_decide_eq_true h)
theorem k_pow (a b c : Int) (h : decide ((0 ≤ b ∧ b ≤ 1000000) ∧ a.natAbs < 18446744073709551616) = true) (hc : a ^ b.toNat = c) : powD (enc a) (enc b) = .ok (enc c) := by
  have h := of_decide_eq_true h
  rw [← hc]; exact powD_p a b h.1 h.2
/-! ranges -/
def rangeI (lo c : Int) (n : Nat) : List Int := (List.range n).map fun (i : Nat) => lo + (i : Int) * c
theorem rangeI_enc (lo c : Int) (n : Nat) : rangeD lo c n = encs (rangeI lo c n) := by
  unfold rangeD rangeI encs
  rw [List.map_map]; rfl
def rngT (n : Int) : Res (List Int) := if -(2 ^ 62) ≤ n ∧ n < 2 ^ 62 then .ok (rangeI 0 1 n.toNat) else .bad
def rng2T (lo hi : Int) : Res (List Int) := if -(2 ^ 62) ≤ lo ∧ lo < 2 ^ 62 ∧ -(2 ^ 62) ≤ hi ∧ hi < 2 ^ 62 then .ok (rangeI lo 1 (hi - lo).toNat) else .bad
def rng3T (lo hi c : Int) : Res (List Int) := if c = -1 ∧ -(2 ^ 62) ≤ lo ∧ lo < 2 ^ 62 ∧ -(2 ^ 62) ≤ hi ∧ hi < 2 ^ 62 then .ok (rangeI lo (-1) (lo - hi).toNat) else .bad
theorem le_rng (n : Int) : Le encs (rng1 [enc n]) (rngT n) := le_ite (rangeI_enc ..)
theorem le_rng2 (lo hi : Int) : Le encs (rng2 [enc lo, enc hi]) (rng2T lo hi) := le_ite (rangeI_enc ..)
theorem le_rng3 (lo hi c : Int) : Le encs (rng3 [enc lo, enc hi, enc c]) (rng3T lo hi c) := le_ite (rangeI_enc ..)
/-! lists -/
def appT {α : Type} (xs : List α) (x : α) : Res (List α) := if xs.length < 16777216 then .ok (xs ++ [x]) else .bad
theorem le_app (xs : List α) (x : α) (d : D) (h : d = enc x) : Le encs (appG (encs xs) [d]) (appT xs x) := by
  subst h
  show Le encs (if (encs xs).length < sizeLine then Res.ok (encs xs ++ [enc x]) else .bad) _
  rw [List.length_map, szl]
  exact le_ite (by simp)
def insT {α : Type} (xs : List α) (i : Int) (x : α) : Res (List α) := if xs.length < 16777216 ∧ 0 ≤ i ∧ i < 2 ^ 63 then .ok (xs.take i.toNat ++ [x] ++ xs.drop i.toNat) else .bad
theorem le_ins (xs : List α) (i : Int) (x : α) (d : D) (h : d = enc x) : Le encs (insG (encs xs) [enc i, d]) (insT xs i x) := by
  subst h
  show Le encs (if (encs xs).length < sizeLine ∧ 0 ≤ i ∧ i < 2 ^ 63 then Res.ok ((encs xs).take i.toNat ++ [enc x] ++ (encs xs).drop i.toNat) else .bad) _
  rw [List.length_map, szl]
  exact le_ite (by simp)
def extT {α : Type} (xs ys : List α) : Res (List α) := if xs.length + ys.length ≤ 16777216 then .ok (xs ++ ys) else .bad
theorem le_ext (xs ys : List α) (d : D) (h : d = enc ys) : Le encs (extG (encs xs) [d]) (extT xs ys) := by
  subst h
  show Le encs (if (encs xs).length + (ys.map Enc.en).length ≤ sizeLine then Res.ok (encs xs ++ ys.map Enc.en) else .bad) _
  rw [List.length_map, List.length_map, szl]
  exact le_ite (by simp)
theorem le_addL (xs ys : List α) (d d' : D) (h : d = enc xs) (h' : d' = enc ys) : Le encs (addL d d') (extT xs ys) := by
  subst h h'
  show Le encs (if (xs.map Enc.en).length + (ys.map Enc.en).length ≤ sizeLine then Res.ok (xs.map Enc.en ++ ys.map Enc.en) else .bad) _
  rw [List.length_map, List.length_map, szl]
  exact le_ite (by simp)
theorem le_addD (xs ys : List α) (d d' : D) (h : d = enc xs) (h' : d' = enc ys) : Le enc (addD d d') (extT xs ys) := by
  subst h h'
  show Le enc (if (xs.map Enc.en).length + (ys.map Enc.en).length ≤ sizeLine then Res.ok (D.lst (xs.map Enc.en ++ ys.map Enc.en)) else .bad) _
  rw [List.length_map, List.length_map, szl]
  exact le_ite (by show _ = D.lst _; simp)
def extTT {α : Type} (xs ys : TL α) : Res (TL α) := if xs.l.length + ys.l.length ≤ 16777216 then .ok ⟨xs.l ++ ys.l⟩ else .bad
theorem le_addT (xs ys : TL α) (d d' : D) (h : d = enc xs) (h' : d' = enc ys) : Le enc (addD d d') (extTT xs ys) := by
  subst h h'
  have e : addD (enc xs) (enc ys) = if (xs.l.map Enc.en).length + (ys.l.map Enc.en).length ≤ sizeLine then .ok (.tup (xs.l.map (Enc.en (α := α)) ++ ys.l.map Enc.en)) else .bad := rfl
  rw [e, List.length_map, List.length_map, szl]
  exact le_ite (by show _ = D.tup _; simp)
def setT {α : Type} (xs : List α) (i : Int) (x : α) : Res (List α) := match ixN xs.length i with
  | some j => .ok (xs.set j x)
  | none => .bad
theorem le_set (xs : List α) (i : Int) (x : α) (d : D) (h : d = enc x) : Le encs (setG (encs xs) (enc i) d) (setT xs i x) := by
  subst h
  show Le encs (match ixN (encs xs).length i with
    | some j => Res.ok ((encs xs).set j (enc x))
    | none => .bad) _
  rw [List.length_map]
  unfold setT
  cases ixN xs.length i with
  | none => exact ⟨trivial⟩
  | some j => exact ⟨by show _ = _; simp [encs]⟩
def repT {α : Type} (xs : List α) (k : Int) : Res (List α) := if -(2 ^ 63) ≤ k ∧ k < 2 ^ 63 ∧ xs.length * k.toNat ≤ 16777216 then .ok (List.replicate k.toNat xs).flatten else .bad
theorem le_rep (xs : List α) (k : Int) (d : D) (h : d = enc xs) : Le enc (mulD d (enc k)) (repT xs k) := by
  subst h
  have e : mulD (enc xs) (enc k) = if -(2 ^ 63) ≤ k ∧ k < 2 ^ 63 ∧ (xs.map Enc.en).length * k.toNat ≤ sizeLine then .ok (.lst (List.replicate k.toNat (xs.map (Enc.en (α := α)))).flatten) else .bad := rfl
  rw [e, List.length_map, szl]
  exact le_ite (by show _ = D.lst _; simp [List.map_flatten])
theorem cutG_map {α β : Type} (f : α → β) (xs : List α) (lo hi : Option Int) : cutG (xs.map f) lo hi = (cutG xs lo hi).map f := by
  unfold cutG
  simp
theorem k_cutL (xs : List α) (lo hi : Option Int) : cutL (enc xs) lo hi = .ok (encs (cutG xs lo hi)) := by
  show Res.ok (cutG (xs.map Enc.en) lo hi) = _
  rw [cutG_map]
theorem k_cutD (xs : List α) (lo hi : Option Int) : cutD (enc xs) lo hi = .ok (enc (cutG xs lo hi)) := by
  show Res.ok (D.lst (cutG (xs.map Enc.en) lo hi)) = _
  rw [cutG_map]; rfl
def cutTT {α : Type} (xs : TL α) (lo hi : Option Int) : Res (TL α) := if ¬ (HT.sIx xs.l.length 0 lo = 0 ∧ HT.sIx xs.l.length xs.l.length hi = xs.l.length) then .ok ⟨cutG xs.l lo hi⟩ else .bad
theorem le_cutT (xs : TL α) (lo hi : Option Int) : Le enc (cutD (enc xs) lo hi) (cutTT xs lo hi) := by
  have e : cutD (enc xs) lo hi = if ¬ (HT.sIx (xs.l.map (Enc.en (α := α))).length 0 lo = 0 ∧ HT.sIx (xs.l.map (Enc.en (α := α))).length (xs.l.map (Enc.en (α := α))).length hi = (xs.l.map (Enc.en (α := α))).length) then .ok (.tup (cutG (xs.l.map Enc.en) lo hi)) else .bad := rfl
  rw [e, List.length_map, cutG_map]
  exact le_ite rfl
theorem k_rev (xs : List α) : revL (enc xs) = .ok (encs xs.reverse) := by
  show Res.ok (xs.map Enc.en).reverse = _
  simp
theorem k_len (xs : List α) : lenD [enc xs] = .ok (enc (xs.length : Int)) := by
  show Res.ok (D.int ((xs.map Enc.en).length : Nat)) = _
  rw [List.length_map]; rfl
theorem k_lent (xs : TL α) : lenD [enc xs] = .ok (enc (xs.l.length : Int)) := by
  show Res.ok (D.int ((xs.l.map Enc.en).length : Nat)) = _
  rw [List.length_map]; rfl
theorem k_lens (xs : Scr) : lenD [enc xs] = .ok (enc (xs.l.length : Int)) := rfl
theorem k_tup (xs : List α) : tupD [enc xs] = .ok (enc (TL.mk xs)) := rfl
theorem k_tupt (xs : TL α) : tupD [enc xs] = .ok (enc xs) := rfl
theorem k_list (xs : List α) : listD [enc xs] = .ok (encs xs) := rfl
theorem k_listt (xs : TL α) : listD [enc xs] = .ok (encs xs.l) := rfl
theorem k_seq (xs : List α) : seqOf (enc xs) = .ok (encs xs) := rfl
theorem k_seqt (xs : TL α) : seqOf (enc xs) = .ok (encs xs.l) := rfl
theorem k_lstOf (xs : List α) : lstOf (enc xs) = .ok (encs xs) := rfl
omit [Enc α] [Enc β] in
theorem ints_enc : ∀ xs : List Int, intsOf (xs.map Enc.en) = some xs
  | [] => rfl
  | x :: xs => by
    show (intsOf (xs.map Enc.en)).map (x :: ·) = _
    rw [ints_enc xs]; rfl
omit [Enc α] [Enc β] in
theorem bools_enc : ∀ xs : List Bool, boolsOf (xs.map Enc.en) = some xs
  | [] => rfl
  | x :: xs => by
    show (boolsOf (xs.map Enc.en)).map (x :: ·) = _
    rw [bools_enc xs]; rfl
theorem k_sum (xs : List Int) : sumD [enc xs] = .ok (enc xs.sum) := by
  show (opt (intsOf (xs.map Enc.en)) >>= fun ns => Res.ok (D.int ns.sum)) = _
  rw [ints_enc]; rfl
theorem k_all (xs : List Bool) : allD [enc xs] = .ok (enc (xs.all id)) := by
  show (opt (boolsOf (xs.map Enc.en)) >>= fun ns => Res.ok (D.bl (ns.all id))) = _
  rw [bools_enc]; rfl
theorem k_any (xs : List Bool) : anyD [enc xs] = .ok (enc (xs.any id)) := by
  show (opt (boolsOf (xs.map Enc.en)) >>= fun ns => Res.ok (D.bl (ns.any id))) = _
  rw [bools_enc]; rfl
def maxT (xs : List Int) : Res Int := if 0 < xs.length then .ok (listMax xs) else .bad
def minT (xs : List Int) : Res Int := if 0 < xs.length then .ok (listMin xs) else .bad
theorem le_max (xs : List Int) : Le enc (maxD [enc xs]) (maxT xs) := by
  show Le enc (opt (intsOf (xs.map Enc.en)) >>= fun ns => if 0 < ns.length then Res.ok (D.int (listMax ns)) else .bad) _
  rw [ints_enc]
  exact le_ite rfl
theorem le_min (xs : List Int) : Le enc (minD [enc xs]) (minT xs) := by
  show Le enc (opt (intsOf (xs.map Enc.en)) >>= fun ns => if 0 < ns.length then Res.ok (D.int (listMin ns)) else .bad) _
  rw [ints_enc]
  exact le_ite rfl
omit [Enc α] [Enc β] in
theorem zipT_enc [Enc α] [Enc β] : ∀ (xs : List α) (ys : List β), zipD (encs xs) (encs ys) = encs (List.zipWith T2.mk xs ys)
  | [], ys => by simp [zipD, encs]
  | x :: xs, [] => rfl
  | x :: xs, y :: ys => by
    show D.tup [enc x, enc y] :: zipD (encs xs) (encs ys) = _
    rw [zipT_enc xs ys]; rfl
theorem k_zip (xs : List α) (ys : List β) : zipL [enc xs, enc ys] = .ok (encs (List.zipWith T2.mk xs ys)) := congrArg _ (zipT_enc xs ys)
theorem k_neg (a : Int) : negD (enc a) = .ok (enc (-a)) := rfl
theorem k_intb (b : Bool) : intD [enc b] = .ok (enc (if b = true then (1 : Int) else 0)) := rfl
/-! comparing -/
class NonN (α : Type) [Enc α] : Prop where
  ne : ∀ a : α, enc a ≠ .non
instance : NonN Int := ⟨fun _ h => by cases h⟩
instance : NonN Bool := ⟨fun _ h => by cases h⟩
instance : NonN Str := ⟨fun _ h => by cases h⟩
instance : NonN (List α) := ⟨fun _ h => by cases h⟩
instance : NonN (TL α) := ⟨fun _ h => by cases h⟩
instance {A : Type} [Enc A] : NonN (T1 A) := ⟨fun _ h => by cases h⟩
instance {A B : Type} [Enc A] [Enc B] : NonN (T2 A B) := ⟨fun _ h => by cases h⟩
instance {A B C : Type} [Enc A] [Enc B] [Enc C] : NonN (T3 A B C) := ⟨fun _ h => by cases h⟩
theorem isNon_ne (d : D) (h : d ≠ .non) : isNonD d .non = .ok (.bl false) := by
  cases d <;> first | rfl | exact absurd rfl h
theorem k_isnon [NonN α] (o : Option α) : isNonD (enc o) .non = .ok (enc o.isNone) := by
  cases o with
  | none => rfl
  | some a => exact isNon_ne _ (NonN.ne a)
theorem k_isnot [NonN α] (o : Option α) : notNonD (enc o) .non = .ok (enc (!o.isNone)) := by
  cases o with
  | none => rfl
  | some a =>
    have : ∀ d : D, d ≠ .non → notNonD d .non = .ok (.bl true) := fun d h => by cases d <;> first | rfl | exact absurd rfl h
    exact this _ (NonN.ne a)
theorem k_isnon0 [NonN α] (a : α) : isNonD (enc a) .non = .ok (enc false) := isNon_ne _ (NonN.ne a)
theorem k_isnot0 [NonN α] (a : α) : notNonD (enc a) .non = .ok (enc true) := by
  have : ∀ d : D, d ≠ .non → notNonD d .non = .ok (.bl true) := fun d h => by cases d <;> first | rfl | exact absurd rfl h
  exact this _ (NonN.ne a)
def unT {α : Type} : Option α → Res α
  | some a => .ok a
  | none => .bad
theorem le_un {o : Option α} : Le enc (.ok (enc o)) (unT o) := by
  cases o
  · exact ⟨trivial⟩
  · exact ⟨rfl⟩
class EqT (α : Type) [Enc α] [DecidableEq α] : Prop where
  eq : ∀ a b : α, eqB (enc a) (enc b) = .ok (decide (a = b))
instance : EqT Int := ⟨fun _ _ => rfl⟩
instance : EqT Str := ⟨fun _ _ => rfl⟩
instance : EqT Bool := ⟨fun _ _ => rfl⟩
theorem k_eq [DecidableEq α] [EqT α] (a b : α) : eqD (enc a) (enc b) = .ok (enc (decide (a = b))) := by
  unfold eqD; rw [EqT.eq]; rfl
theorem k_ne [DecidableEq α] [EqT α] (a b : α) : neD (enc a) (enc b) = .ok (enc (!decide (a = b))) := by
  unfold neD; rw [EqT.eq]; rfl
/-! membership of ints and strs -/
class InT (α : Type) [Enc α] [DecidableEq α] : Prop where
  fl : ∃ f : α → V, (∀ a : α, flatD (enc a) = some (f a)) ∧ ∀ a b, eqV (f b) (f a) = decide (a = b)
theorem inV_dec {f : α → V} [DecidableEq α] (h : ∀ a b, eqV (f b) (f a) = decide (a = b)) (a : α) : ∀ xs : List α, inV (f a) (xs.map f) = decide (a ∈ xs)
  | [] => rfl
  | x :: xs => by
    have ih := inV_dec h a xs
    show ((x :: xs).map f).any (fun y => eqV y (f a)) = _
    have ih : (xs.map f).any (fun y => eqV y (f a)) = decide (a ∈ xs) := ih
    rw [List.map_cons, List.any_cons, ih, h a x]
    by_cases q : a = x <;> by_cases q' : a ∈ xs <;> simp [q, q']
theorem flats_map {f : α → V} (h : ∀ a : α, flatD (enc a) = some (f a)) : ∀ xs : List α, flats (xs.map Enc.en) = some (xs.map f)
  | [] => rfl
  | x :: xs => by
    show (match flatD (enc x), flats (xs.map Enc.en) with
      | some v, some vs => some (v :: vs)
      | _, _ => none) = _
    rw [h x, flats_map h xs]; rfl
instance : InT Int := ⟨V.int, fun _ => rfl, fun a b => by
  by_cases h : a = b
  · subst h; rw [decide_eq_true rfl]; exact beq_self_eq_true a
  · rw [decide_eq_false h]; exact beq_eq_false_iff_ne.mpr fun z => h z.symm⟩
instance : InT Str := ⟨V.str, fun _ => rfl, fun a b => by
  by_cases h : a = b
  · subst h; rw [decide_eq_true rfl]; exact beq_self_eq_true a
  · rw [decide_eq_false h]; exact beq_eq_false_iff_ne.mpr fun z => h z.symm⟩
theorem k_in [DecidableEq α] [InT α] (a : α) (xs : List α) : inD (enc a) (enc xs) = .ok (enc (decide (a ∈ xs))) := by
  obtain ⟨f, h1, h2⟩ := InT.fl (α := α)
  have e : inB (enc a) (enc xs) = match flatD (enc a), flats (xs.map Enc.en) with
    | some v, some vs => .ok (inV v vs)
    | _, _ => .bad := by show inB (enc a) (.lst _) = _; unfold inB; rfl
  unfold inD
  rw [e, h1, flats_map h1]
  show Res.ok (D.bl (inV (f a) (xs.map f))) = _
  rw [inV_dec h2]; rfl
theorem k_int [DecidableEq α] [InT α] (a : α) (xs : TL α) : inD (enc a) (enc xs) = .ok (enc (decide (a ∈ xs.l))) := by
  obtain ⟨f, h1, h2⟩ := InT.fl (α := α)
  have e : inB (enc a) (enc xs) = match flatD (enc a), flats (xs.l.map Enc.en) with
    | some v, some vs => .ok (inV v vs)
    | _, _ => .bad := by show inB (enc a) (.tup _) = _; unfold inB; rfl
  unfold inD
  rw [e, h1, flats_map h1]
  show Res.ok (D.bl (inV (f a) (xs.l.map f))) = _
  rw [inV_dec h2]; rfl
theorem nin_of {x y : D} {b : Bool} (h : inD x y = .ok (.bl b)) : ninD x y = .ok (enc (!b)) := by
  unfold inD at h
  unfold ninD
  cases q : inB x y with
  | ok k => rw [q] at h; cases h; rfl
  | err z => rw [q] at h; cases h
  | bad => rw [q] at h; cases h
theorem k_nin [DecidableEq α] [InT α] (a : α) (xs : List α) : ninD (enc a) (enc xs) = .ok (enc (!decide (a ∈ xs))) := nin_of (k_in a xs)
theorem k_nint [DecidableEq α] [InT α] (a : α) (xs : TL α) : ninD (enc a) (enc xs) = .ok (enc (!decide (a ∈ xs.l))) := nin_of (k_int a xs)
end
end Cr
namespace Cr
open PySem L2
section
variable {γ : Type} {Q : γ → Flow → Prop} {E : Env → Prop} {ρ ρ' : Env} {T : Res γ} {α β σ : Type} {k : Env → Flow}
abbrev letT {α γ : Type} (v : α) (F : α → Res γ) : Res γ := F v
theorem c_okL {r : Res D} {K : D → Flow} [Enc α] (v : α) {F : α → Res γ} (h : r = .ok (enc v)) (k : ∀ x, Sim Q E (K (enc x)) (F x)) : Sim Q E (bindF r ρ K) (letT v F) := by
  rw [h]; exact k v
theorem c_okU {r : Res D} {K : D → Flow} [Enc α] {o : Option α} {S : α → Res γ} (h : r = .ok (enc o)) (k : ∀ x, Sim Q E (K (enc x)) (S x)) : Sim Q E (bindF r ρ K) (unT o >>= S) := by
  rw [h]
  cases o with
  | none => exact ⟨trivial⟩
  | some a => exact k a
theorem le_unr [Enc α] {r : Res D} {t : Res (Option α)} (h : Le enc r t) : Le enc r (t >>= unT) := by
  cases t with
  | ok o =>
    have h : r = .ok (enc o) := h.g
    rw [h]
    cases o with
    | none => exact ⟨trivial⟩
    | some a => exact ⟨rfl⟩
  | err x => exact ⟨h.g⟩
  | bad => exact ⟨trivial⟩
theorem p_andM {a b : Bool} {r : Res Bool} (h : r = .ok b) : andM a r = .ok (a && b) := by
  subst h; cases a <;> rfl
theorem p_orM {a b : Bool} {r : Res Bool} (h : r = .ok b) : orM a r = .ok (a || b) := by
  subst h; cases a <;> rfl
theorem p_andMV {a b : Bool} {r : Res D} (h : r = .ok (enc b)) : andMV a r = .ok (enc (a && b)) := by
  subst h; cases a <;> rfl
theorem p_orMV {a b : Bool} {r : Res D} (h : r = .ok (enc b)) : orMV a r = .ok (enc (a || b)) := by
  subst h; cases a <;> rfl
/-- a slot that may be empty -/
def mbS {α : Type} [Enc α] : Option α → Sl
  | none => .no
  | some a => .v (.d (enc a))
def mbL {α : Type} [Enc α] : Option (List α) → Sl
  | none => .no
  | some a => .v (.ol (encs a))
theorem fre_mb [Enc α] (o : Option α) : fre (mbS o) := by cases o <;> rfl
theorem fre_mbL [Enc α] (o : Option (List α)) : fre (mbL o) := by cases o <;> rfl
theorem le_mb [Enc α] {o : Option α} {i : Nat} (h : ρ[i]? = some (mbS o)) : Le enc (mVar i ρ) (unT o) := by
  cases o with
  | none => exact ⟨trivial⟩
  | some a => exact ⟨by show mVar i ρ = .ok (enc a); unfold mVar; rw [h]; rfl⟩
theorem q_frzm [Enc α] {o : Option (List α)} {i : Nat} {m : Env → Flow} {S : List α → Res γ} (h : ρ[i]? = some (mbL o)) (hk : ∀ a, Sim Q E (seqF (m (ρ.set i (.v (.d (enc a))))) k) (S a)) : Sim Q E (seqF (mFrz i m ρ) k) (unT o >>= S) := by
  cases o with
  | none => exact ⟨trivial⟩
  | some a =>
    unfold mFrz frzE
    rw [h]
    exact hk a
def likeR (r : Res D) : Res Bool := r >>= tru
theorem le_like {r : Res D} : Le enc r (likeR r) := by
  cases r with
  | ok d =>
    cases d <;> first | exact ⟨rfl⟩ | exact ⟨trivial⟩
  | err x => exact ⟨rfl⟩
  | bad => exact ⟨trivial⟩
/-! a mirror whose end is spoken of -/
theorem fin_of {r : Res D} {t : Res Bool} (h : Le enc r t) (ht : t = .ok true) : r = .ok (.bl true) := le_of_ok h ht
end
end Cr
/-! Tl, part 4: equality of nested data. -/
namespace Cr
open PySem L2
class PyT (α : Type) [Enc α] [DecidableEq α] where
  py : α → PyData
  h : ∀ a : α, toPy (enc a) = some (py a)
  dep : Nat
  hd : ∀ a : α, (py a).depth ≤ dep
  ok : α → Bool
  hok : ∀ a : α, (py a).canLay0 = ok a
  inj : ∀ a b : α, PyData.eqv (py a) (py b) = decide (a = b)
instance : PyT Int where
  py := .int
  h _ := rfl
  dep := 0
  hd _ := Nat.le_refl 0
  ok _ := true
  hok _ := by unfold PyData.canLay0; rfl
  inj a b := by unfold PyData.eqv; by_cases h : a = b <;> simp [h]
instance : PyT Bool where
  py := .bool
  h _ := rfl
  dep := 0
  hd _ := Nat.le_refl 0
  ok _ := true
  hok _ := by unfold PyData.canLay0; rfl
  inj a b := by unfold PyData.eqv; cases a <;> cases b <;> rfl
instance : PyT Str where
  py := .str
  h _ := rfl
  dep := 0
  hd _ := Nat.le_refl 0
  ok x := PyData.strOk x
  hok _ := by unfold PyData.canLay0; rfl
  inj a b := by unfold PyData.eqv; by_cases h : a = b <;> simp [h]
section
variable {α : Type} [Enc α] [DecidableEq α] [PyT α]
theorem pys_map : ∀ xs : List α, toPys (xs.map Enc.en) = some (xs.map PyT.py)
  | [] => rfl
  | x :: xs => by
    show (match toPy (enc x), toPys (xs.map Enc.en) with
      | some p, some ps => some (p :: ps)
      | _, _ => none) = _
    rw [PyT.h x, pys_map xs]; rfl
theorem dep_all : ∀ xs : List α, PyData.depthAll (xs.map PyT.py) ≤ PyT.dep (α := α)
  | [] => Nat.zero_le _
  | x :: xs => by
    show max (PyT.py x).depth (PyData.depthAll (xs.map PyT.py)) ≤ _
    have := PyT.hd x
    have := dep_all xs
    omega
theorem lay_all : ∀ xs : List α, PyData.canLayAll0 (xs.map PyT.py) = xs.all PyT.ok
  | [] => rfl
  | x :: xs => by
    show ((PyT.py x).canLay0 && PyData.canLayAll0 (xs.map PyT.py)) = _
    rw [PyT.hok x, lay_all xs]; rfl
theorem eqv_all : ∀ xs ys : List α, PyData.eqvAll (xs.map PyT.py) (ys.map PyT.py) = decide (xs = ys)
  | [], [] => rfl
  | [], y :: ys => rfl
  | x :: xs, [] => rfl
  | x :: xs, y :: ys => by
    show (PyData.eqv (PyT.py x) (PyT.py y) && PyData.eqvAll (xs.map PyT.py) (ys.map PyT.py)) = _
    rw [PyT.inj x y, eqv_all xs ys]
    by_cases h : x = y <;> by_cases h' : xs = ys <;> simp [h, h']
instance : PyT (List α) where
  py xs := .list (xs.map PyT.py)
  h xs := by
    show (match toPys (xs.map Enc.en) with
      | some ps => some (PyData.list ps)
      | none => none) = _
    rw [pys_map]
  dep := PyT.dep (α := α) + 1
  hd xs := Nat.succ_le_succ (dep_all xs)
  ok xs := xs.all PyT.ok
  hok xs := by show PyData.canLayAll0 (xs.map PyT.py) = _; exact lay_all xs
  inj a b := by show PyData.eqvAll (a.map PyT.py) (b.map PyT.py) = _; exact eqv_all a b
instance : PyT (TL α) where
  py xs := .tuple (xs.l.map PyT.py)
  h xs := by
    show (match toPys (xs.l.map Enc.en) with
      | some ps => some (PyData.tuple ps)
      | none => none) = _
    rw [pys_map]
  dep := PyT.dep (α := α) + 1
  hd xs := Nat.succ_le_succ (dep_all xs.l)
  ok xs := xs.l.all PyT.ok
  hok xs := by show PyData.canLayAll0 (xs.l.map PyT.py) = _; exact lay_all xs.l
  inj a b := by
    show PyData.eqvAll (a.l.map PyT.py) (b.l.map PyT.py) = _
    rw [eqv_all]
    cases a; cases b
    simp
/-- None or a value that is none of None -/
class PyN (α : Type) [Enc α] [DecidableEq α] [PyT α] : Prop where
  l : ∀ a : α, PyData.eqv .none (PyT.py a) = false
  r : ∀ a : α, PyData.eqv (PyT.py a) .none = false
instance : PyN Int := ⟨fun _ => by unfold PyData.eqv PyT.py; rfl, fun _ => by unfold PyData.eqv PyT.py; rfl⟩
instance : PyN (List α) := ⟨fun _ => by unfold PyData.eqv PyT.py; rfl, fun _ => by unfold PyData.eqv PyT.py; rfl⟩
instance : PyN (TL α) := ⟨fun _ => by unfold PyData.eqv PyT.py; rfl, fun _ => by unfold PyData.eqv PyT.py; rfl⟩
instance [PyN α] : PyT (Option α) where
  py o := match o with
    | none => .none
    | some a => PyT.py a
  h o := by
    cases o with
    | none => rfl
    | some a => exact PyT.h a
  dep := PyT.dep (α := α)
  hd o := by
    cases o with
    | none => exact Nat.zero_le _
    | some a => exact PyT.hd a
  ok o := match o with
    | none => true
    | some a => PyT.ok a
  hok o := by
    cases o with
    | none => show PyData.canLay0 .none = _; unfold PyData.canLay0; rfl
    | some a => exact PyT.hok a
  inj a b := by
    cases a with
    | none =>
      cases b with
      | none => show PyData.eqv .none .none = _; unfold PyData.eqv; rfl
      | some b => show PyData.eqv .none (PyT.py b) = _; rw [PyN.l]; rfl
    | some a =>
      cases b with
      | none => show PyData.eqv (PyT.py a) .none = _; rw [PyN.r]; rfl
      | some b => show PyData.eqv (PyT.py a) (PyT.py b) = _; rw [PyT.inj]; simp
end
section
variable {A B C E F : Type} [Enc A] [DecidableEq A] [PyT A] [Enc B] [DecidableEq B] [PyT B] [Enc C] [DecidableEq C] [PyT C]
instance : PyT (T1 A) where
  py x := .tuple [PyT.py x.a]
  h x := by
    show (match (match toPy (enc x.a), some ([] : List PyData) with
      | some p, some ps => some (p :: ps)
      | _, _ => none) with
      | some ps => some (PyData.tuple ps)
      | none => none) = _
    rw [PyT.h]
  dep := PyT.dep (α := A) + 1
  hd x := by
    show max (PyT.py x.a).depth 0 + 1 ≤ _
    have := PyT.hd x.a
    omega
  ok x := PyT.ok x.a
  hok x := by
    show ((PyT.py x.a).canLay0 && true) = _
    rw [PyT.hok, Bool.and_true]
  inj a b := by
    show (PyData.eqv (PyT.py a.a) (PyT.py b.a) && true) = _
    rw [PyT.inj, Bool.and_true]
    cases a; cases b; simp
instance : PyT (T2 A B) where
  py x := .tuple [PyT.py x.a, PyT.py x.b]
  h x := by
    show (match (match toPy (enc x.a), (match toPy (enc x.b), some ([] : List PyData) with
      | some p, some ps => some (p :: ps)
      | _, _ => none) with
      | some p, some ps => some (p :: ps)
      | _, _ => none) with
      | some ps => some (PyData.tuple ps)
      | none => none) = _
    rw [PyT.h, PyT.h]
  dep := max (PyT.dep (α := A)) (PyT.dep (α := B)) + 1
  hd x := by
    show max (PyT.py x.a).depth (max (PyT.py x.b).depth 0) + 1 ≤ _
    have := PyT.hd x.a
    have := PyT.hd x.b
    omega
  ok x := PyT.ok x.a && PyT.ok x.b
  hok x := by
    show ((PyT.py x.a).canLay0 && ((PyT.py x.b).canLay0 && true)) = _
    rw [PyT.hok, PyT.hok, Bool.and_true]
  inj a b := by
    show (PyData.eqv (PyT.py a.a) (PyT.py b.a) && (PyData.eqv (PyT.py a.b) (PyT.py b.b) && true)) = _
    rw [PyT.inj, PyT.inj, Bool.and_true]
    cases a; cases b
    simp
instance : PyT (T3 A B C) where
  py x := .tuple [PyT.py x.a, PyT.py x.b, PyT.py x.c]
  h x := by
    show (match (match toPy (enc x.a), (match toPy (enc x.b), (match toPy (enc x.c), some ([] : List PyData) with
      | some p, some ps => some (p :: ps)
      | _, _ => none) with
      | some p, some ps => some (p :: ps)
      | _, _ => none) with
      | some p, some ps => some (p :: ps)
      | _, _ => none) with
      | some ps => some (PyData.tuple ps)
      | none => none) = _
    rw [PyT.h, PyT.h, PyT.h]
  dep := max (PyT.dep (α := A)) (max (PyT.dep (α := B)) (PyT.dep (α := C))) + 1
  hd x := by
    show max (PyT.py x.a).depth (max (PyT.py x.b).depth (max (PyT.py x.c).depth 0)) + 1 ≤ _
    have := PyT.hd x.a
    have := PyT.hd x.b
    have := PyT.hd x.c
    omega
  ok x := PyT.ok x.a && (PyT.ok x.b && PyT.ok x.c)
  hok x := by
    show ((PyT.py x.a).canLay0 && ((PyT.py x.b).canLay0 && ((PyT.py x.c).canLay0 && true))) = _
    rw [PyT.hok, PyT.hok, PyT.hok, Bool.and_true]
  inj a b := by
    show (PyData.eqv (PyT.py a.a) (PyT.py b.a) && (PyData.eqv (PyT.py a.b) (PyT.py b.b) && (PyData.eqv (PyT.py a.c) (PyT.py b.c) && true))) = _
    rw [PyT.inj, PyT.inj, PyT.inj, Bool.and_true]
    cases a; cases b
    simp
instance : PyN (T1 A) := ⟨fun _ => by unfold PyData.eqv PyT.py; rfl, fun _ => by unfold PyData.eqv PyT.py; rfl⟩
instance : PyN (T2 A B) := ⟨fun _ => by unfold PyData.eqv PyT.py; rfl, fun _ => by unfold PyData.eqv PyT.py; rfl⟩
instance : PyN (T3 A B C) := ⟨fun _ => by unfold PyData.eqv PyT.py; rfl, fun _ => by unfold PyData.eqv PyT.py; rfl⟩
end
section
variable {α : Type} [Enc α] [DecidableEq α] [PyT α]
/-- equality of nested data; their texts must be such as can stand in a tuple -/
def eqT (a b : α) : Res Bool := if (PyT.ok a && PyT.ok b) = true then .ok (decide (a = b)) else .bad
def neT (a b : α) : Res Bool := if (PyT.ok a && PyT.ok b) = true then .ok (!decide (a = b)) else .bad
theorem eqB_t (a b : α) (h64 : PyT.dep (α := α) ≤ 64) (h : (PyT.ok a && PyT.ok b) = true) : eqB (enc a) (enc b) = .ok (decide (a = b)) := by
  have gen : ∀ x y : D, toPy x = some (PyT.py a) → toPy y = some (PyT.py b) → eqB x y = .ok (decide (a = b)) := by
    intro x y hx hy
    have hi := PyT.inj a b
    have s : (SeqAt.shaped (PyT.py a) && SeqAt.shaped (PyT.py b)) = true := by
      unfold SeqAt.shaped
      have h1 := PyT.hok a
      have h2 := PyT.hok b
      have h3 := PyT.hd a
      have h4 := PyT.hd b
      rw [h1, h2, decide_eq_true (by omega), decide_eq_true (by omega)]
      simpa using h
    have dflt : (match toPy x, toPy y with
      | some p, some q => if SeqAt.shaped p && SeqAt.shaped q then Res.ok (PyData.eqv p q) else .bad
      | _, _ => .bad) = .ok (decide (a = b)) := by
      rw [hx, hy]
      show (if (SeqAt.shaped (PyT.py a) && SeqAt.shaped (PyT.py b)) = true then Res.ok (PyData.eqv (PyT.py a) (PyT.py b)) else .bad) = _
      rw [if_pos s, hi]
    cases x <;> cases y <;> first
      | exact dflt
      | (simp only [toPy, Option.some.injEq] at hx hy
         rw [← hx, ← hy] at hi
         unfold PyData.eqv at hi
         rw [← hi]
         first
           | rfl
           | (rename_i u v
              show Res.ok (decide (u = v)) = _
              by_cases q : u = v <;> simp [q]))
  exact gen _ _ (PyT.h a) (PyT.h b)
theorem le_eqT (a b : α) (h64 : PyT.dep (α := α) ≤ 64) : Le enc (eqD (enc a) (enc b)) (eqT a b) := by
  unfold eqT
  by_cases h : (PyT.ok a && PyT.ok b) = true
  · rw [if_pos h]
    exact ⟨by unfold eqD; rw [eqB_t a b h64 h]; rfl⟩
  · rw [if_neg h]; exact ⟨trivial⟩
theorem le_neT (a b : α) (h64 : PyT.dep (α := α) ≤ 64) : Le enc (neD (enc a) (enc b)) (neT a b) := by
  unfold neT
  by_cases h : (PyT.ok a && PyT.ok b) = true
  · rw [if_pos h]
    exact ⟨by unfold neD; rw [eqB_t a b h64 h]; rfl⟩
  · rw [if_neg h]; exact ⟨trivial⟩
end
theorem le_max2 (xs : List Int) : Le enc (maxD2 [enc xs]) (maxT xs) := le_max xs
theorem le_min2 (xs : List Int) : Le enc (minD2 [enc xs]) (minT xs) := le_min xs
theorem le_maxt (xs : TL Int) : Le enc (maxD2 [enc xs]) (maxT xs.l) := le_max xs.l
theorem le_mint (xs : TL Int) : Le enc (minD2 [enc xs]) (minT xs.l) := le_min xs.l
end Cr
/-! Tl, part 5: calls whose list is new. -/
namespace Cr
open PySem L2
class Atm (α : Type) [Enc α] : Prop where
  h : ∀ a : α, isAtom (enc a) = true
class Flt5 (α : Type) [Enc α] : Prop where
  h : ∀ a : α, flatL (enc a) = true
instance : Atm Int := ⟨fun _ => rfl⟩
instance : Atm Bool := ⟨fun _ => rfl⟩
instance : Atm Str := ⟨fun _ => rfl⟩
instance {α : Type} [Enc α] [Atm α] : Atm (Option α) := ⟨fun o => by cases o with | none => rfl | some a => exact Atm.h a⟩
instance {α : Type} [Enc α] [Atm α] : Flt5 (List α) := ⟨fun xs => by
  show (xs.map Enc.en).all isAtom = true
  rw [List.all_map]
  exact List.all_eq_true.mpr fun x _ => Atm.h x⟩
instance : Flt5 Int := ⟨fun _ => rfl⟩
instance : Flt5 Bool := ⟨fun _ => rfl⟩
instance : Flt5 Str := ⟨fun _ => rfl⟩
theorem fl_nil : flatLs [] = true := rfl
theorem fl_cons {α : Type} [Enc α] [Flt5 α] {a : α} {ds : List D} (h : flatLs ds = true) : flatLs (enc a :: ds) = true := by
  show (flatL (enc a) && flatLs ds) = true
  rw [Flt5.h a, h]; rfl
theorem le_own {α : Type} [Enc α] {e' : α → List D} {ds : List D} {r : Res D} {t : Res α} (h : Le enc r t) (hl : ∀ a, enc a = .lst (e' a)) (ha : ∀ a, (e' a).any (fun d => !isAtom d) = true) (hn : ∀ a, noLsts (e' a) = true) (hf : flatLs ds = true) : Le e' (r >>= ownD ds) t := by
  cases t with
  | bad => exact ⟨trivial⟩
  | err x => have h : r = .err x := h.g; exact ⟨by rw [h]; rfl⟩
  | ok a =>
    have h : r = .ok (enc a) := h.g
    refine ⟨?_⟩
    rw [h]
    show ownD ds (enc a) = .ok (e' a)
    rw [hl a]
    show (if ((e' a).any (fun d => !isAtom d) && noLsts (e' a) && flatLs ds) = true then Res.ok (e' a) else .bad) = _
    rw [ha, hn, hf]; rfl
theorem c_argO {γ : Type} {Q : γ → Flow → Prop} {E : Env → Prop} {ρ : Env} {T : Res γ} {mf : List D → Res D} {ms : Env → Res (List D)} {K : List D → Flow} (h : Sim Q E (bindF (ms ρ) ρ fun xs => bindF (mf xs >>= ownD xs) ρ K) T) : Sim Q E (bindF (mArgO mf ms ρ) ρ K) T := c_arg h
theorem c_okgL {α γ δ : Type} {Q : γ → Flow → Prop} {E : Env → Prop} {ρ : Env} {r : Res δ} {K : δ → Flow} {F : α → Res γ} (e : α → δ) (v : α) (h : r = .ok (e v)) (k : ∀ x, Sim Q E (K (e x)) (F x)) : Sim Q E (bindF r ρ K) (letT v F) := by
  rw [h]; exact k v
end Cr
/-! Tl, part 6: list(zip(a, b)). -/
namespace Cr
open PySem L2
def lzT {α β : Type} (xs : List α) (ys : List β) : Res (List (T2 α β)) := if xs.length = ys.length then .ok (List.zipWith T2.mk xs ys) else .bad
theorem le_lz {α β : Type} [Enc α] [Enc β] (xs : List α) (ys : List β) : Le encs (lzL [enc xs, enc ys]) (lzT xs ys) := by
  have e : lzL [enc xs, enc ys] = if (encs xs).length = (encs ys).length then .ok (zipD (encs xs) (encs ys)) else .bad := rfl
  have l1 : (encs xs).length = xs.length := by show (xs.map _).length = _; rw [List.length_map]
  have l2 : (encs ys).length = ys.length := by show (ys.map _).length = _; rw [List.length_map]
  rw [e, l1, l2, zipT_enc]
  unfold lzT
  by_cases h : xs.length = ys.length
  · rw [if_pos h, if_pos h]; exact ⟨rfl⟩
  · rw [if_neg h, if_neg h]; exact ⟨trivial⟩
end Cr
/-! Tl, part 7: C(x), x a list that its maker goes on to change. -/
namespace Cr
open PySem L2
def lentT {α β : Type} [Enc α] [Enc β] (xs : List α) (b : β) : Res β := if (plDs (encs xs) && noAl (encs xs) (enc b)) = true then .ok b else .bad
theorem le_lent {α β : Type} [Enc α] [Enc β] (xs : List α) (b : β) : Le enc (lentD [enc xs] (enc b)) (lentT xs b) := by
  have e : lentD [enc xs] (enc b) = if (plDs (encs xs) && noAl (encs xs) (enc b)) = true then .ok (enc b) else .bad := rfl
  rw [e]
  unfold lentT
  by_cases h : (plDs (encs xs) && noAl (encs xs) (enc b)) = true
  · rw [if_pos h, if_pos h]; exact ⟨rfl⟩
  · rw [if_neg h, if_neg h]; exact ⟨trivial⟩
section
variable {γ : Type} {Q : γ → Flow → Prop} {E : Env → Prop} {ρ : Env} {T : Res γ}
theorem c_mkO {c : Nat} {mf : List D → Res (List D)} {ms : Env → Res (List D)} {K : D → Flow} (h : Sim Q E (bindF (ms ρ) ρ fun xs => bindF (lent1 xs) ρ fun xs => bindF (mf xs) ρ fun fs => bindF (lentD xs (.obj c fs)) ρ K) T) : Sim Q E (bindF (mMkO c mf ms ρ) ρ K) T := by
  have e : bindF (mMkO c mf ms ρ) ρ K = bindF (ms ρ) ρ fun xs => bindF (lent1 xs) ρ fun xs => bindF (mf xs) ρ fun fs => bindF (lentD xs (.obj c fs)) ρ K := by
    unfold mMkO
    rw [bindF_as]
    congr 1; funext x
    rw [bindF_as]
    congr 1; funext x
    rw [bindF_as]
  rw [e]; exact h
end
end Cr
/-! Tl, part 8: what generators ask. -/
namespace Cr
open PySem L2
section
variable {α β : Type} [Enc α] [Enc β]
theorem k_lenL (xs : List α) : lenL [enc xs] = .ok (enc (xs.length : Int)) := by
  have e : lenL [enc xs] = .ok (.int (xs.map (Enc.en (α := α))).length) := rfl
  rw [e, List.length_map]; rfl
theorem k_pairs (xs : List (T2 α β)) : pairsOf (enc xs) = .ok (encs xs) := by
  have e : pairsOf (enc xs) = if (encs xs).all (fun d => match d with | .tup [_, _] => true | _ => false) = true then .ok (encs xs) else .bad := rfl
  rw [e, if_pos]
  rw [List.all_eq_true]
  intro d hd
  obtain ⟨a, _, rfl⟩ := List.mem_map.mp hd
  rfl
end
theorem ints_encs : ∀ xs : List Int, intsOf (encs xs) = some xs
  | [] => rfl
  | x :: xs => by
    show (intsOf (encs xs)).map (x :: ·) = _
    rw [ints_encs xs]; rfl
def lenSetT (xs : List Int) : Res Int := if xs.Nodup ∧ xs.length ≤ 4000 then .ok xs.length else .bad
theorem le_lenSet (xs : List Int) : Le enc (lenSetD [enc xs]) (lenSetT xs) := by
  have e : lenSetD [enc xs] = match intsOf (encs xs) with
    | some ns => if ns.Nodup ∧ ns.length ≤ 4000 then .ok (.int ns.length) else .bad
    | none => .bad := rfl
  rw [e, ints_encs]
  unfold lenSetT
  show Le enc (if xs.Nodup ∧ xs.length ≤ 4000 then .ok (.int xs.length) else .bad) _
  by_cases h : xs.Nodup ∧ xs.length ≤ 4000
  · rw [if_pos h, if_pos h]; exact ⟨rfl⟩
  · rw [if_neg h, if_neg h]; exact ⟨trivial⟩
end Cr
/-! Tl, part 9: comprehensions with two fors. -/
namespace Cr
open PySem L2
section
variable {α β : Type} [Enc α] [Enc β]
def compM2 (r : Res (List D)) : Res (List D) := r >>= fun ds => match decide (ds.length ≤ sizeLine) with
  | true => .ok ds
  | false => .bad
def compT2 {α β : Type} (f : α → Res (List β)) : List α → Res (List β)
  | [] => .ok []
  | x :: xs => nerr (f x) >>= fun ds => compT2 f xs >>= fun es => .ok (ds ++ es)
def compS2 {α β : Type} (f : α → Res (List β)) (xs : List α) : Res (List β) := compT2 f xs >>= fun ds => if ds.length ≤ 16777216 then .ok ds else .bad
theorem encs_some (xs : List α) : encs (xs.map some) = encs xs := by
  show (xs.map some).map Enc.en = xs.map Enc.en
  rw [List.map_map]; rfl
theorem k_listS (xs : List α) : listD [enc xs] = .ok (encs (xs.map some)) := by rw [encs_some]; exact k_list xs
theorem c_comp2 {ρ : Env} {Q : γ → Flow → Prop} {E : Env → Prop} {T : Res γ} {vs : List Nat} {mi : Env → Res (List D)} {g : D → Env → Option Env} {ml : Env → Res D} {K : List D → Flow} (h : Sim Q E (bindF (mi ρ) ρ fun xs => bindF (compM2 (compL2 g ml (wipeE ρ vs) xs)) ρ K) T) : Sim Q E (bindF (mComp2 vs mi g ml ρ) ρ K) T := by
  have e : bindF (mComp2 vs mi g ml ρ) ρ K = bindF (mi ρ) ρ fun xs => bindF (compM2 (compL2 g ml (wipeE ρ vs) xs)) ρ K := by
    show bindF (mi ρ >>= fun xs => compM2 (compL2 g ml (wipeE ρ vs) xs)) ρ K = _
    rw [bindF_as]
  rw [e]; exact h
theorem le_compT2 {ρ : Env} {g : D → Env → Option Env} {ml : Env → Res D} {f : α → Res (List β)} (e1 : α → Env) (hg : ∀ x, g (enc x) ρ = some (e1 x)) (hf : ∀ x, Le enc (ml (e1 x)) (f x)) : ∀ xs : List α, Le encs (compL2 g ml ρ (encs xs)) (compT2 f xs)
  | [] => ⟨rfl⟩
  | x :: xs => by
    have ih := le_compT2 e1 hg hf xs
    have e : compL2 g ml ρ (encs (x :: xs)) = nerr (nerr (ml (e1 x)) >>= lstOf) >>= fun ds => compL2 g ml ρ (encs xs) >>= fun es => .ok (ds ++ es) := by
      show (match g (enc x) ρ with
        | none => (Res.bad : Res (List D))
        | some ρ1 => nerr (nerr (ml ρ1) >>= lstOf) >>= fun ds => compL2 g ml ρ (encs xs) >>= fun es => .ok (ds ++ es)) = _
      rw [hg x]
    rw [e]
    show Le encs _ (nerr (f x) >>= fun ds => compT2 f xs >>= fun es => .ok (ds ++ es))
    have h2 := hf x
    generalize f x = Fx at h2 ⊢
    cases Fx with
    | ok y =>
      have h2 : ml (e1 x) = .ok (enc y) := h2.g
      rw [h2]
      show Le encs (compL2 g ml ρ (encs xs) >>= fun es => .ok (encs y ++ es)) (compT2 f xs >>= fun es => .ok (y ++ es))
      generalize compT2 f xs = C at ih ⊢
      cases C with
      | ok ys =>
        have ih : compL2 g ml ρ (encs xs) = .ok (encs ys) := ih.g
        rw [ih]
        refine ⟨?_⟩
        show Res.ok (encs y ++ encs ys) = Res.ok (encs (y ++ ys))
        exact congrArg Res.ok (List.map_append).symm
      | err z =>
        have ih : compL2 g ml ρ (encs xs) = .err z := ih.g
        rw [ih]; exact ⟨rfl⟩
      | bad => exact ⟨trivial⟩
    | err z => exact ⟨trivial⟩
    | bad => exact ⟨trivial⟩
theorem le_comp2 {ρ : Env} {vs : List Nat} {g : D → Env → Option Env} {ml : Env → Res D} {f : α → Res (List β)} {xs : List α} (ρ0 : Env) (hw : wipeE ρ vs = ρ0) (e1 : α → Env) (hg : ∀ x, g (enc x) ρ0 = some (e1 x)) (hf : ∀ x, Le enc (ml (e1 x)) (f x)) : Le encs (compM2 (compL2 g ml (wipeE ρ vs) (encs xs))) (compS2 f xs) := by
  unfold compS2 compM2
  rw [hw]
  have h := le_compT2 e1 hg hf xs
  generalize compT2 f xs = C at h ⊢
  cases C with
  | ok ys =>
    have h : compL2 g ml ρ0 (encs xs) = .ok (encs ys) := h.g
    rw [h]
    show Le encs (match decide ((encs ys).length ≤ sizeLine) with
      | true => .ok (encs ys)
      | false => .bad) (if ys.length ≤ 16777216 then .ok ys else .bad)
    rw [List.length_map, szl]
    by_cases hz : ys.length ≤ 16777216
    · rw [if_pos hz, decide_eq_true hz]; exact ⟨rfl⟩
    · rw [if_neg hz]; exact ⟨trivial⟩
  | err z =>
    have h : compL2 g ml ρ0 (encs xs) = .err z := h.g
    rw [h]; exact ⟨rfl⟩
  | bad => exact ⟨trivial⟩
end
section
variable {α : Type} [Enc α] [DecidableEq α] [PyT α]
def inDT (a : α) (xs : List α) : Res Bool := if (PyT.ok a && xs.all PyT.ok) = true then .ok (decide (a ∈ xs)) else .bad
def ninDT (a : α) (xs : List α) : Res Bool := if (PyT.ok a && xs.all PyT.ok) = true then .ok (!decide (a ∈ xs)) else .bad
theorem inDB_t (a : α) (xs : List α) (h64 : PyT.dep (α := α) + 1 ≤ 64) (h : (PyT.ok a && xs.all PyT.ok) = true) : inDB (enc a) (enc xs) = .ok (decide (a ∈ xs)) := by
  have s : (SeqAt.shaped (PyT.py a) && SeqAt.shaped (PyT.py xs)) = true := by
    unfold SeqAt.shaped
    have h1 := PyT.hok a
    have h2 := PyT.hok xs
    have h3 := PyT.hd a
    have h4 : (PyT.py xs).depth ≤ PyT.dep (α := α) + 1 := PyT.hd xs
    rw [h1, h2, decide_eq_true (by omega), decide_eq_true (by omega)]
    rw [Bool.and_eq_true] at h
    rw [h.1, show (PyT.ok xs : Bool) = xs.all PyT.ok from rfl, h.2]; rfl
  have e : inDB (enc a) (enc xs) = match toPy (enc a), toPys (xs.map Enc.en) with
    | some p, some ps => if SeqAt.shaped p && SeqAt.shaped (.list ps) then Res.ok (ps.any fun z => PyData.eqv z p) else .bad
    | _, _ => .bad := by
    show inDB (enc a) (.lst (xs.map Enc.en)) = _
    cases enc a <;> rfl
  rw [e, PyT.h a, pys_map]
  show (if (SeqAt.shaped (PyT.py a) && SeqAt.shaped (PyT.py xs)) = true then Res.ok ((xs.map PyT.py).any fun z => PyData.eqv z (PyT.py a)) else .bad) = _
  rw [if_pos s]
  congr 1
  rw [List.any_map]
  by_cases hm : a ∈ xs
  · rw [decide_eq_true hm, List.any_eq_true]
    exact ⟨a, hm, by show PyData.eqv (PyT.py a) (PyT.py a) = true; rw [PyT.inj]; simp⟩
  · rw [decide_eq_false hm, List.any_eq_false]
    intro y hy
    show ¬ PyData.eqv (PyT.py y) (PyT.py a) = true
    rw [PyT.inj]
    simp
    intro z
    exact hm (z ▸ hy)
theorem le_inDT (a : α) (xs : List α) (h64 : PyT.dep (α := α) + 1 ≤ 64) : Le enc (inDD (enc a) (enc xs)) (inDT a xs) := by
  unfold inDT
  by_cases h : (PyT.ok a && xs.all PyT.ok) = true
  · rw [if_pos h]
    exact ⟨by unfold inDD; rw [inDB_t a xs h64 h]; rfl⟩
  · rw [if_neg h]; exact ⟨trivial⟩
theorem le_ninDT (a : α) (xs : List α) (h64 : PyT.dep (α := α) + 1 ≤ 64) : Le enc (ninDD (enc a) (enc xs)) (ninDT a xs) := by
  unfold ninDT
  by_cases h : (PyT.ok a && xs.all PyT.ok) = true
  · rw [if_pos h]
    exact ⟨by unfold ninDD; rw [inDB_t a xs h64 h]; rfl⟩
  · rw [if_neg h]; exact ⟨trivial⟩
end
end Cr
/-! Tl, part 10: enumerate; x[j] += e. -/
namespace Cr
open PySem L2
section
variable {α β γ : Type} [Enc α] [Enc β]
def enumL {α : Type} (xs : List α) : List (T2 Int α) := xs.mapIdx fun i x => ⟨(i : Int), x⟩
theorem enum_enc (xs : List α) : encs (enumL xs) = enumD (encs xs) := by
  unfold enumD enumL
  refine List.ext_getElem (by simp) fun i h1 h2 => ?_
  have hi : i < xs.length := by simpa using h1
  rw [List.getElem_map, List.getElem_map, List.getElem_mapIdx, List.getElem_range]
  have e : (encs xs).getD i .non = enc xs[i] := by
    rw [List.getD_eq_getElem?_getD, List.getElem?_map, List.getElem?_eq_getElem hi]; rfl
  rw [e]; rfl
theorem k_enumt (xs : TL α) : enumT [enc xs] = .ok (encs (enumL xs.l)) := by
  rw [enum_enc]; rfl
def getIT {α : Type} (xs : List α) (i : Int) : Res α := if 0 ≤ i then (match xs[i.toNat]? with
  | some d => .ok d
  | none => .bad) else .bad
theorem le_getI (xs : List α) (i : Int) : Le enc (getI (encs xs) (enc i)) (getIT xs i) := by
  show Le enc (if 0 ≤ i then (match (encs xs)[i.toNat]? with
    | some d => Res.ok d
    | none => .bad) else .bad) _
  unfold getIT
  by_cases h : 0 ≤ i
  · rw [if_pos h, if_pos h, List.getElem?_map]
    cases xs[i.toNat]? with
    | none => exact ⟨trivial⟩
    | some d => exact ⟨rfl⟩
  · rw [if_neg h, if_neg h]; exact ⟨trivial⟩
theorem k_repL (xs : List α) (k : Int) : Le encs (repL (enc xs) (enc k)) (repT xs k) := by
  have e : repL (enc xs) (enc k) = if -(2 ^ 63) ≤ k ∧ k < 2 ^ 63 ∧ (xs.map Enc.en).length * k.toNat ≤ sizeLine then .ok (List.replicate k.toNat (xs.map (Enc.en (α := α)))).flatten else .bad := rfl
  rw [e, List.length_map, szl]
  unfold repT
  refine le_ite ?_
  show _ = ((List.replicate k.toNat xs).flatten).map Enc.en
  rw [List.map_flatten, List.map_replicate]
variable {Q : γ → Flow → Prop} {E : Env → Prop} {T : Res γ} {ρ : Env} {k : Env → Flow}
theorem q_augix {i : Nat} {mj me : Env → Res D} (xs : List D) (R : List D → Env) (e : ρ[i]? = some (.v (.ol xs))) (hR : ∀ ys, ρ.set i (.v (.ol ys)) = R ys)
    (h : Sim Q E (bindF (mj ρ) ρ fun j => bindF (getI xs j) ρ fun d => bindF (me ρ) ρ fun y => bindF (addI d y) ρ fun z => bindF (setG xs j z) ρ fun ys => k (R ys)) T) : Sim Q E (seqF (mAugIx i mj me ρ) k) T := by
  rw [← funext hR] at h
  unfold mAugIx
  rw [e]
  refine Eq.mpr (congrArg (fun f => Sim Q E f T) ?_) h
  show seqF (bindF (mj ρ) ρ fun j => bindF (getI xs j) ρ fun d => bindF (me ρ) ρ fun e => bindF (addI d e) ρ fun z => bindF (setG xs j z) ρ fun ys => .nx (ρ.set i (.v (.ol ys)))) k = _
  rw [seqF_bind]; congr 1; funext j
  rw [seqF_bind]; congr 1; funext d
  rw [seqF_bind]; congr 1; funext y
  rw [seqF_bind]; congr 1; funext z
  rw [seqF_bind]; rfl
end
end Cr
/-! Tl, part 11: zip of tuples, count, in a tuple, tuples times a number. -/
namespace Cr
open PySem L2
section
variable {α β γ : Type} [Enc α] [Enc β]
theorem k_tupOf (xs : TL α) : tupOf (enc xs) = .ok (encs xs.l) := rfl
theorem k_zipt (xs : TL α) (ys : TL β) : zipTL [enc xs, enc ys] = .ok (encs (List.zipWith T2.mk xs.l ys.l)) := by
  have h := k_zip xs.l ys.l
  have e : zipTL [enc xs, enc ys] = zipL [enc xs.l, enc ys.l] := rfl
  rw [e, h]
theorem k_cnt (xs : List Int) (k : Int) : cntD (encs xs) [enc k] = .ok (enc ((xs.count k : Nat) : Int)) := by
  show (match intsOf (xs.map Enc.en) with
    | some ns => Res.ok (D.int (ns.count k : Nat))
    | none => .bad) = _
  rw [ints_enc]; rfl
theorem p_cnt {ρ : Env} {mo : Env → Res D} {ms : Env → Res (List D)} (xs : List Int) (k : Int) (h1 : mo ρ = .ok (enc xs)) (h2 : ms ρ = .ok [enc k]) : mCnt mo ms ρ = .ok (enc ((xs.count k : Nat) : Int)) := by
  unfold mCnt
  rw [h1]
  show (ms ρ >>= fun ds => cntD (encs xs) ds) = _
  rw [h2]
  exact k_cnt xs k
def repTT1 {α : Type} (xs : TL α) (k : Int) : Res (TL α) := if xs.l ≠ [] ∧ 1 ≤ k ∧ k ≤ 1000 ∧ xs.l.length ≤ 1000 then .ok ⟨(List.replicate k.toNat xs.l).flatten⟩ else .bad
theorem le_rept1 (xs : TL α) (k : Int) (d : D) (h : d = enc xs) : Le enc (repD d (enc k)) (repTT1 xs k) := by
  subst h
  have e : repD (enc xs) (enc k) = if xs.l.map Enc.en ≠ [] ∧ 1 ≤ k ∧ k ≤ 1000 ∧ (xs.l.map Enc.en).length ≤ 1000 then .ok (.tup (List.replicate k.toNat (xs.l.map (Enc.en (α := α)))).flatten) else .bad := rfl
  rw [e, List.length_map]
  unfold repTT1
  have n : ∀ zs : List α, zs.map (Enc.en (α := α)) ≠ [] ↔ zs ≠ [] := fun zs => by cases zs <;> simp
  exact le_ite' (by rw [n]) (by show _ = D.tup _; simp [List.map_flatten])
end
section
variable {α : Type} [Enc α] [DecidableEq α] [PyT α]
theorem inTB_t (a : α) (xs : TL α) (h64 : PyT.dep (α := α) + 1 ≤ 64) (h : (PyT.ok a && xs.l.all PyT.ok) = true) : inTB (enc a) (enc xs) = .ok (decide (a ∈ xs.l)) := by
  have s : (SeqAt.shaped (PyT.py a) && SeqAt.shaped (PyT.py xs)) = true := by
    unfold SeqAt.shaped
    have h1 := PyT.hok a
    have h2 := PyT.hok xs
    have h3 := PyT.hd a
    have h4 : (PyT.py xs).depth ≤ PyT.dep (α := α) + 1 := PyT.hd xs
    rw [h1, h2, decide_eq_true (by omega), decide_eq_true (by omega)]
    rw [Bool.and_eq_true] at h
    rw [h.1, show (PyT.ok xs : Bool) = xs.l.all PyT.ok from rfl, h.2]; rfl
  have e : inTB (enc a) (enc xs) = match toPy (enc a), toPys (xs.l.map Enc.en) with
    | some p, some ps => if SeqAt.shaped p && SeqAt.shaped (.tuple ps) then Res.ok (ps.any fun z => PyData.eqv z p) else .bad
    | _, _ => .bad := by
    show inTB (enc a) (.tup (xs.l.map Enc.en)) = _
    cases enc a <;> rfl
  rw [e, PyT.h a, pys_map]
  show (if (SeqAt.shaped (PyT.py a) && SeqAt.shaped (PyT.py xs)) = true then Res.ok ((xs.l.map PyT.py).any fun z => PyData.eqv z (PyT.py a)) else .bad) = _
  rw [if_pos s]
  congr 1
  rw [List.any_map]
  by_cases hm : a ∈ xs.l
  · rw [decide_eq_true hm, List.any_eq_true]
    exact ⟨a, hm, by show PyData.eqv (PyT.py a) (PyT.py a) = true; rw [PyT.inj]; simp⟩
  · rw [decide_eq_false hm, List.any_eq_false]
    intro y hy
    show ¬ PyData.eqv (PyT.py y) (PyT.py a) = true
    rw [PyT.inj]
    simp
    intro z
    exact hm (z ▸ hy)
def inTT (a : α) (xs : TL α) : Res Bool := if (PyT.ok a && xs.l.all PyT.ok) = true then .ok (decide (a ∈ xs.l)) else .bad
def ninTT (a : α) (xs : TL α) : Res Bool := if (PyT.ok a && xs.l.all PyT.ok) = true then .ok (!decide (a ∈ xs.l)) else .bad
theorem le_inTT (a : α) (xs : TL α) (h64 : PyT.dep (α := α) + 1 ≤ 64) : Le enc (inTD (enc a) (enc xs)) (inTT a xs) := by
  unfold inTT
  by_cases h : (PyT.ok a && xs.l.all PyT.ok) = true
  · rw [if_pos h]
    exact ⟨by unfold inTD; rw [inTB_t a xs h64 h]; rfl⟩
  · rw [if_neg h]; exact ⟨trivial⟩
theorem le_ninTT (a : α) (xs : TL α) (h64 : PyT.dep (α := α) + 1 ≤ 64) : Le enc (ninTD (enc a) (enc xs)) (ninTT a xs) := by
  unfold ninTT
  by_cases h : (PyT.ok a && xs.l.all PyT.ok) = true
  · rw [if_pos h]
    exact ⟨by unfold ninTD; rw [inTB_t a xs h64 h]; rfl⟩
  · rw [if_neg h]; exact ⟨trivial⟩
end
end Cr
/-! Tl, part 12: two new lists handed on; len(set(xs)) with doubles. -/
namespace Cr
open PySem L2
section
variable {α β γ : Type} [Enc α] [Enc β]
def handT {α β : Type} (xs : List α) (ts : List β) : Res Unit := if xs.length < sizeLine ∧ ts.length < sizeLine then .ok () else .bad
theorem noL_of3 {k : Nat} {a b c : D} (ha : noL a = true) (hb : noL b = true) (hc : noL c = true) : noL (.obj k [a, b, c]) = true := by
  show (noL a && (noL b && (noL c && true))) = true
  rw [ha, hb, hc]; rfl
theorem noL_ints (xs : List Int) : noLs (encs xs) = true := by
  induction xs with
  | nil => rfl
  | cons x xs ih => exact ih
theorem noL_tlI (xs : TL Int) : noL (enc xs) = true := noL_ints xs.l
theorem noL_pairs (xs : List (T2 Int Int)) : noLs (encs xs) = true := by
  induction xs with
  | nil => rfl
  | cons x xs ih => exact ih
theorem noL_tlP (xs : TL (T2 Int Int)) : noL (enc xs) = true := noL_pairs xs.l
variable {Q : γ → Flow → Prop} {E : Env → Prop} {T : Res γ} {ρ R : Env} {k : Env → Flow}
theorem q_hend {i j : Nat} {xs : List α} {ts : List β} {d : D} (e1 : ρ[i]? = some (.v (.d (.lst [enc xs, enc ts])))) (e2 : ρ[j]? = some (.v (.d d))) (hn : noL d = true) (hR : ρ.set i .no = R)
    (h : Sim Q E (k R) T) : Sim Q E (seqF (mHEnd i j ρ) k) (handT xs ts >>= fun _ => T) := by
  unfold mHEnd handT
  rw [e1, e2]
  show Sim Q E (seqF (if noL d = true ∧ (xs.map (Enc.en (α := α))).length < sizeLine ∧ (ts.map (Enc.en (α := β))).length < sizeLine then .nx (ρ.set i .no) else .bad) k) _
  by_cases c : xs.length < sizeLine ∧ ts.length < sizeLine
  · rw [if_pos ⟨hn, by rw [List.length_map]; exact c.1, by rw [List.length_map]; exact c.2⟩, if_pos c, hR]
    exact h
  · rw [if_neg c]
    exact sim_bad
end
/-- how many several ones there are -/
def firstLen (ns : List Int) : Nat := (PyProof.Rows.firstMet (fun i => ns.getD i 0) ns.length).length
def lenSetNT (xs : List Int) : Res Int := if xs.length ≤ 4000 then .ok (firstLen xs : Int) else .bad
theorem le_lenSetN (xs : List Int) : Le enc (lenSetN [enc xs]) (lenSetNT xs) := by
  have e : lenSetN [enc xs] = match intsOf (encs xs) with
    | some ns => if ns.length ≤ 4000 then .ok (.int ((PyProof.Rows.firstMet (fun i => ns.getD i 0) ns.length).length : Nat)) else .bad
    | none => .bad := rfl
  rw [e, ints_encs]
  unfold lenSetNT
  show Le enc (if xs.length ≤ 4000 then .ok (.int (firstLen xs : Nat)) else .bad) _
  by_cases h : xs.length ≤ 4000
  · rw [if_pos h, if_pos h]; exact ⟨rfl⟩
  · rw [if_neg h, if_neg h]; exact ⟨trivial⟩
open PyProof.Rows in
theorem firstMet_full (f : Nat → Int) : ∀ n, (firstMet f n).length = n → ∀ i j, i < j → j < n → f i ≠ f j
  | 0, _, i, j, _, h => absurd h (Nat.not_lt_zero _)
  | n + 1, e, i, j, hij, hj => by
    have hl := firstMet_len f n
    rw [firstMet_succ] at e
    unfold step_dedup at e
    by_cases c : ((firstMet f n).any (· == f n)) = true
    · rw [if_pos c] at e; omega
    · rw [if_neg c, List.length_append, List.length_singleton] at e
      have e' : (firstMet f n).length = n := by omega
      have ih := firstMet_full f n e'
      by_cases hjn : j < n
      · exact ih i j hij hjn
      · have hjn : j = n := by omega
        subst hjn
        intro z
        refine c ?_
        rw [firstMet_any]
        exact List.any_eq_true.mpr ⟨f i, List.mem_map.mpr ⟨i, List.mem_range.mpr hij, rfl⟩, by rw [z]; exact beq_self_eq_true _⟩
theorem firstLen_nodup {ns : List Int} (h : firstLen ns = ns.length) : ns.Nodup := by
  refine List.pairwise_iff_getElem.mpr fun i j hi hj hij => ?_
  have := firstMet_full _ _ h i j hij hj
  rw [List.getD_eq_getElem?_getD, List.getElem?_eq_getElem hi, List.getD_eq_getElem?_getD, List.getElem?_eq_getElem hj] at this
  exact this
theorem firstLen_ok {ns : List Int} (h : ns.Nodup) : firstLen ns = ns.length := by
  unfold firstLen
  rw [RZ.firstMet_nodup h _ (Nat.le_refl _), List.take_length]
def rngLT (n : Int) : Res (List Int) := if -(2 ^ 62) ≤ n ∧ n ≤ 16777216 then .ok (rangeI 0 1 n.toNat) else .bad
theorem le_rngL (n : Int) : Le encs (rngL [enc n]) (rngLT n) := le_ite (rangeI_enc ..)
end Cr
namespace Cr
open PySem L2
/-! the mirrors of law_k17_rides, printed by gen.py -/
def b_wall : Env → Flow := (whileL (mTst (mC (.bl true))) mEnd 1000)
def m_wall : List D → Res D := runD 1 b_wall
def b_ride_init : Env → Flow := (mSeq (mIfS (mOr (mNot (mTst (mChain leD leD (mC (.int 2)) (mArg lenD (mCons (mVar 1) mNil)) (mC (.int 12))))) (mNot (mTst (mArg allD (mCons (toE (mComp [5, 6] (mUnF pairsOf (mVar 1)) (gQ (gSc (gN 5) (gSc (gN 6) gS0))) mYes (mAndV (mChain leD leD (mC (.int 1)) (mVar 5) (mVar 6)) (mBin leD (mVar 6) (mC (.int 99)))))) mNil))))) (mRaise (.own 4)) mEnd) (mSeq (mIfS (mNot (mTst (mChain leD leD (mC (.int 1)) (mVar 2) (mC (.int 20))))) (mRaise (.own 4)) mEnd) (mSeq (mIfS (mOr (mNot (mTst (mChain leD ltD (mC (.int 1)) (mArg lenD (mCons (mVar 3) mNil)) (mArg lenD (mCons (mVar 1) mNil))))) (mTst (mBin neD (mArg lenSetN (mCons (mVar 3) mNil)) (mArg lenD (mCons (mVar 3) mNil))))) (mRaise (.own 4)) mEnd) (mSeq (mIfS (mNot (mTst (mArg allD (mCons (toE (mComp [4] (mUnF lstOf (mVar 3)) (gN 4) mYes (mChain leD ltD (mC (.int 0)) (mVar 4) (mArg lenL (mCons (mVarB 1) mNil))))) mNil)))) (mRaise (.own 4)) mEnd) (mSeq (mSelfSet 0 22 "ways" (mArg tupD (mCons (mVar 1) mNil))) (mSeq (mSelfSet 0 22 "over" (mVar 2)) (mSelfSet 0 22 "trains" (mArg tupD (mCons (mVar 3) mNil)))))))))
def m_ride_init : List D → Res (List D) := runI 7 22 b_ride_init
def b_ride_blocks : Env → Flow := (mEx (mArg m_wall (mCons (mC (.int 0)) mNil)))
def m_ride_blocks : List D → Res D := runD 1 b_ride_blocks
def b_ride_station : Env → Flow := (mEx (mArg m_wall (mCons (mC (.int 1)) mNil)))
def m_ride_station : List D → Res D := runD 1 b_ride_station
def b_ride_next_block : Env → Flow := (mEx (mArg m_wall (mCons (mC (.int 2)) mNil)))
def m_ride_next_block : List D → Res D := runD 2 b_ride_next_block
def b_ride_first : Env → Flow := (mRet (mTup (mCons (mArg tupD (mCons (toE (mComp [1] (mUnF seqOf (mUn (fldD 22 2) (mVar 0))) (gN 1) mYes (mTup (mCons (mC (.str "held")) (mCons (mVar 1) (mCons (mC (.int 0)) mNil)))))) mNil)) (mCons (mC (.int 0)) (mCons (mC .non) mNil)))))
def m_ride_first : List D → Res D := runD 2 b_ride_first
def b_ride_sensors : Env → Flow := (mSeq (mSetO 1 (mLst mNil)) (mSeq (mFor (mArg rng1 (mCons (mArg lenD (mCons (mUn (fldD 22 0) (mVar 0)) mNil)) mNil)) (gN 2) (mLm 1 extG (mCons (toE (mLst (mCons (mTup (mCons (mC (.str "sensor")) (mCons (mVar 2) (mCons (mC (.int 0)) mNil)))) (mCons (mTup (mCons (mC (.str "sensor")) (mCons (mVar 2) (mCons (mC (.int 1)) mNil)))) mNil)))) mNil))) (mRet (mBin addD (mVarB 1) (toE (mLst (mCons (mTup (mCons (mC (.str "present")) (mCons (mC (.int 0)) (mCons (mC (.int 0)) mNil)))) (mCons (mTup (mCons (mC (.str "present")) (mCons (mC (.int 0)) (mCons (mC (.int 1)) mNil)))) mNil))))))))
def m_ride_sensors : List D → Res D := runD 3 b_ride_sensors
def b_ride_calipers : Env → Flow := (mSeq (mSetO 1 (mLst mNil)) (mSeq (mFor (mArg rng1 (mCons (mArg lenD (mCons (mUn (fldD 22 0) (mVar 0)) mNil)) mNil)) (gN 2) (mLm 1 extG (mCons (toE (mLst (mCons (mTup (mCons (mC (.str "brake")) (mCons (mVar 2) (mCons (mC (.int 0)) mNil)))) (mCons (mTup (mCons (mC (.str "brake")) (mCons (mVar 2) (mCons (mC (.int 1)) mNil)))) mNil)))) mNil))) (mFrz 1 (mRet (mVar 1)))))
def m_ride_calipers : List D → Res D := runD 3 b_ride_calipers
def b_ride_parts : Env → Flow := (mRet (mBin addD (mMth 22 m_ride_sensors (mVar 0) mNil) (mMth 22 m_ride_calipers (mVar 0) mNil)))
def m_ride_parts : List D → Res D := runD 1 b_ride_parts
def b_ride_least_age : Env → Flow := (mEx (mArg m_wall (mCons (mC (.int 3)) mNil)))
def m_ride_least_age : List D → Res D := runD 2 b_ride_least_age
def b_ride_greatest_age : Env → Flow := (mEx (mArg m_wall (mCons (mC (.int 4)) mNil)))
def m_ride_greatest_age : List D → Res D := runD 2 b_ride_greatest_age
def b_law_cell : Env → Flow := (mSeq (mIfS (mTst (mBin ltD (mVar 1) (mArg lenD (mCons (mVar 0) mNil)))) (mRet (mArg absD (mCons (mArg intD (mCons (mBin idxD (mVar 0) (mVar 1)) mNil)) mNil))) mEnd) (mRet (mC (.int 0))))
def m_law_cell : List D → Res D := runD 2 b_law_cell
def b_law_draws : Env → Flow := (mSeq (mSetO 2 (mLst mNil)) (mSeq (mSet 3 (mVar 0)) (mSeq (mFor (mArg rng1 (mCons (mVar 1) mNil)) (gN 4) (mIfS (mAnd (mTst (mBin geD (mVar 0) (mBin powD (mC (.int 10)) (mC (.int 18))))) (mTst (mBin gtD (mVar 3) (mC (.int 0))))) (mSeq (mLm 2 appG (mCons (mBin modD (mArg intD (mCons (mVar 3) mNil)) (mC (.int 4096))) mNil)) (mSet 3 (mBin fdivD (mVar 3) (mC (.int 4096))))) (mSeq (mSet 5 (mBin modD (mArg intD (mCons (mBin addD (mBin mulD (mVar 0) (mC (.int 48271))) (mBin mulD (mBin addD (mVar 4) (mC (.int 1))) (mC (.int 69621)))) mNil)) (mC (.int 2147483647)))) (mSeq (mSet 5 (mBin modD (mArg intD (mCons (mBin addD (mBin addD (mBin mulD (mVar 5) (mVar 5)) (mBin mulD (mVar 5) (mC (.int 16807)))) (mBin mulD (mVar 4) (mC (.int 7919)))) mNil)) (mC (.int 2147483629)))) (mSeq (mSet 5 (mBin modD (mArg intD (mCons (mBin addD (mBin addD (mBin mulD (mVar 5) (mVar 5)) (mVar 0)) (mBin mulD (mC (.int 13)) (mVar 4))) mNil)) (mC (.int 2147483587)))) (mLm 2 appG (mCons (mBin modD (mBin fdivD (mVar 5) (mC (.int 7))) (mC (.int 4096))) mNil))))))) (mFrz 2 (mRet (mVar 2))))))
def m_law_draws : List D → Res D := runD 6 b_law_draws
def b_law_like (m_law_like : List D → Res D) : Env → Flow := (mSeq (mIfS (mTst (mBin isNonD (mVar 1) (mC .non))) (mRet (mBin isNonD (mVar 0) (mC .non))) mEnd) (mSeq (mIfS (mTst (mUn (isiD .bool) (mVar 1))) (mRet (mAndV (mUn (isiD .bool) (mVar 0)) (mBin eqD (mVar 0) (mVar 1)))) mEnd) (mSeq (mIfS (mTst (mUn (isiD .str) (mVar 1))) (mRet (mAndV (mUn (isiD .str) (mVar 0)) (mBin eqD (mVar 0) (mVar 1)))) mEnd) (mSeq (mIfS (mTst (mUn (isiD .int) (mVar 1))) (mRet (mAndV (mUn (isiD .int) (mVar 0)) (mAndV (mNotV (mUn (isiD .bool) (mVar 0))) (mBin eqD (mVar 0) (mVar 1))))) mEnd) (mSeq (mIfS (mOr (mTst (mBin neD (mUn (isiD .list) (mVar 1)) (mUn (isiD .list) (mVar 0)))) (mTst (mBin neD (mUn (isiD .tuple) (mVar 1)) (mUn (isiD .tuple) (mVar 0))))) (mRet (mC (.bl false))) mEnd) (mSeq (mIfS (mTst (mBin neD (mArg lenD (mCons (mVar 0) mNil)) (mArg lenD (mCons (mVar 1) mNil)))) (mRet (mC (.bl false))) mEnd) (mRet (mArg allD (mCons (toE (mComp [2] (mArg rng1 (mCons (mArg lenD (mCons (mVar 1) mNil)) mNil)) (gN 2) mYes (mArg m_law_like (mCons (mBin idxD (mVar 0) (mVar 2)) (mCons (mBin idxD (mVar 1) (mVar 2)) mNil))))) mNil)))))))))
def m_law_like : Nat → List D → Res D
  | 0 => fun _ => .bad
  | n + 1 => runD 3 (b_law_like (m_law_like n))
def b_law_ride : Env → Flow := (mSeq (mSet 2 (mBin addD (mC (.int 2)) (mBin modD (mBin idxD (mVar 0) (mC (.int 0))) (mBin subD (mVar 1) (mC (.int 1)))))) (mSeq (mSetO 3 (mLst mNil)) (mSeq (mFor (mArg rng1 (mCons (mVar 2) mNil)) (gN 4) (mSeq (mSet 6 (mBin addD (mC (.int 1)) (mBin modD (mBin idxD (mVar 0) (mBin addD (mC (.int 1)) (mVar 4))) (mC (.int 3))))) (mLm 3 appG (mCons (mTup (mCons (mVar 6) (mCons (mBin addD (mVar 6) (mBin modD (mBin fdivD (mBin idxD (mVar 0) (mBin addD (mC (.int 1)) (mVar 4))) (mC (.int 3))) (mC (.int 3)))) mNil))) mNil)))) (mSeq (mSetO 5 (mLst mNil)) (mSeq (mFor (mArg rng1 (mCons (mBin addD (mC (.int 1)) (mBin modD (mBin idxD (mVar 0) (mC (.int 9))) (mArg max2D (mCons (mC (.int 1)) (mCons (mBin subD (mVar 2) (mC (.int 1))) mNil))))) mNil)) (gN 4) (mSeq (mSet 7 (mBin modD (mBin idxD (mVar 0) (mBin addD (mC (.int 10)) (mVar 4))) (mVar 2))) (mSeq (mFor (mArg rng1 (mCons (mVar 2) mNil)) (gN 8) (mIfS (mTst (mBin inD (mVar 7) (mVarB 5))) (mSet 7 (mBin modD (mBin addD (mVar 7) (mC (.int 1))) (mVar 2))) mEnd)) (mLm 5 appG (mCons (mVar 7) mNil))))) (mFrz 3 (mFrz 5 (mRet (toE (mLst (mCons (mVar 3) (mCons (mBin addD (mC (.int 1)) (mBin modD (mBin idxD (mVar 0) (mC (.int 16))) (mC (.int 3)))) (mCons (mVar 5) mNil)))))))))))))
def m_law_ride : List D → Res D := runD 9 b_law_ride
def b_law_parts : Env → Flow := (mSeq (mSet 1 (toE (mLst mNil))) (mSeq (mFor (mArg rng1 (mCons (mVar 0) mNil)) (gN 2) (mSet 1 (mBin addD (mVar 1) (toE (mLst (mCons (mTup (mCons (mC (.str "sensor")) (mCons (mVar 2) (mCons (mC (.int 0)) mNil)))) (mCons (mTup (mCons (mC (.str "sensor")) (mCons (mVar 2) (mCons (mC (.int 1)) mNil)))) mNil))))))) (mSeq (mSet 1 (mBin addD (mVar 1) (toE (mLst (mCons (mTup (mCons (mC (.str "present")) (mCons (mC (.int 0)) (mCons (mC (.int 0)) mNil)))) (mCons (mTup (mCons (mC (.str "present")) (mCons (mC (.int 0)) (mCons (mC (.int 1)) mNil)))) mNil)))))) (mSeq (mFor (mArg rng1 (mCons (mVar 0) mNil)) (gN 2) (mSet 1 (mBin addD (mVar 1) (toE (mLst (mCons (mTup (mCons (mC (.str "brake")) (mCons (mVar 2) (mCons (mC (.int 0)) mNil)))) (mCons (mTup (mCons (mC (.str "brake")) (mCons (mVar 2) (mCons (mC (.int 1)) mNil)))) mNil))))))) (mRet (mVar 1))))))
def m_law_parts : List D → Res D := runD 3 b_law_parts
def b_law_made : Env → Flow := (mSeq (mTry [4] 4 (mEx (mMk 22 m_ride_init (mCons (mVar 0) (mCons (mVar 1) (mCons (mVar 2) mNil))))) (mRet (mC (.bl false)))) (mRet (mC (.bl true))))
def m_law_made : List D → Res D := runD 3 b_law_made
def b_law : Env → Flow := (mSeq (mSet 1 (mArg m_law_draws (mCons (mArg m_law_cell (mCons (mVar 0) (mCons (mC (.int 0)) mNil))) (mCons (mC (.int 20)) mNil)))) (mSeq (mAsg (gQ (gSc (gN 9) (gSc (gN 10) (gSc (gN 11) gS0)))) (mArg m_law_ride (mCons (mVar 1) (mCons (mC (.int 7)) mNil)))) (mSeq (mSet 2 (mArg lenD (mCons (mVar 9) mNil))) (mSeq (mSet 3 (toE (mLst (mCons (toE (mArg listD (mCons (mVar 9) mNil))) (mCons (toE (mArg listD (mCons (mVar 11) mNil))) mNil))))) (mSeq (mSet 4 (mMk 22 m_ride_init (mCons (mBin idxD (mVar 3) (mC (.int 0))) (mCons (mVar 10) (mCons (mBin idxD (mVar 3) (mC (.int 1))) mNil))))) (mSeq (mHEnd 3 4) (mSeq (mEx (mTup (mCons (mC (.int 1)) (mCons (mC (.int 1)) mNil)))) (mSeq (mEx (mC (.int 0))) (mSeq (mIfS (mNot (mTst (mArg (m_law_like 8) (mCons (toE (mLst (mCons (mUn (fldD 22 0) (mVar 4)) (mCons (mUn (fldD 22 1) (mVar 4)) (mCons (mUn (fldD 22 2) (mVar 4)) mNil))))) (mCons (toE (mLst (mCons (mArg tupD (mCons (mVar 9) mNil)) (mCons (mVar 10) (mCons (mArg tupD (mCons (mVar 11) mNil)) mNil))))) mNil))))) (mRet (mC (.bl false))) mEnd) (mSeq (mIfS (mOr (mNot (mTst (mArg (m_law_like 8) (mCons (mMth 22 m_ride_first (mVar 4) mNil) (mCons (mTup (mCons (mArg tupD (mCons (toE (mComp [12] (mUnF seqOf (mVar 11)) (gN 12) mYes (mTup (mCons (mC (.str "held")) (mCons (mVar 12) (mCons (mC (.int 0)) mNil)))))) mNil)) (mCons (mC (.int 0)) (mCons (mC .non) mNil)))) mNil))))) (mNot (mTst (mArg (m_law_like 8) (mCons (mMth 22 m_ride_parts (mVar 4) mNil) (mCons (mArg m_law_parts (mCons (mVar 2) mNil)) mNil)))))) (mRet (mC (.bl false))) mEnd) (mSeq (mSet 5 (mBin modD (mBin idxD (mVar 1) (mC (.int 18))) (mVar 2))) (mSeq (mSet 6 (mBin modD (mArg intD (mCons (mArg m_law_cell (mCons (mVar 0) (mCons (mC (.int 1)) mNil))) mNil)) (mBin powD (mC (.int 10)) (mC (.int 30))))) (mSeq (mFor (mUnF seqOf (toE (mLst (mCons (mTup (mCons (mC (.int 0)) (mCons (mC (.int 1)) mNil))) (mCons (mTup (mCons (mC (.int 2)) (mCons (mC (.int 1)) mNil))) (mCons (mTup (mCons (mC (.int 1)) (mCons (mBin addD (mC (.int 100)) (mVar 6)) mNil))) (mCons (mTup (mCons (mBin subD (mC (.int 0)) (mVar 6)) (mCons (mC (.int 5)) mNil))) (mCons (mTup (mCons (mC (.int 100)) (mCons (mC (.int 100)) mNil))) mNil)))))))) (gN 7) (mIfS (mTst (mArg m_law_made (mCons (mBin addD (mBin addD (mSl cutD (mVar 9) mNo (mPart (mVar 5))) (toE (mLst (mCons (mVar 7) mNil)))) (mSl cutD (mVar 9) (mPart (mBin addD (mVar 5) (mC (.int 1)))) mNo)) (mCons (mVar 10) (mCons (mVar 11) mNil))))) (mRet (mC (.bl false))) mEnd)) (mSeq (mFor (mUnF seqOf (toE (mLst (mCons (toE (mLst mNil)) (mCons (mBin addD (mVar 11) (mSl cutD (mVar 11) mNo (mPart (mC (.int 1))))) (mCons (toE (mArg rngL (mCons (mVar 2) mNil))) (mCons (mBin addD (mSl cutD (mVar 11) (mPart (mC (.int 1))) mNo) (toE (mLst (mCons (mBin addD (mVar 2) (mVar 6)) mNil)))) (mCons (mBin addD (mSl cutD (mVar 11) (mPart (mC (.int 1))) mNo) (toE (mLst (mCons (mBin subD (mUn negD (mC (.int 1))) (mVar 6)) mNil)))) mNil)))))))) (gN 8) (mIfS (mTst (mArg m_law_made (mCons (mVar 9) (mCons (mVar 10) (mCons (mVar 8) mNil))))) (mRet (mC (.bl false))) mEnd)) (mSeq (mIfS (mOr (mTst (mArg m_law_made (mCons (mVar 9) (mCons (mBin subD (mC (.int 0)) (mVar 6)) (mCons (mVar 11) mNil))))) (mOr (mTst (mArg m_law_made (mCons (mVar 9) (mCons (mBin addD (mC (.int 21)) (mVar 6)) (mCons (mVar 11) mNil))))) (mOr (mTst (mArg m_law_made (mCons (toE (mLst (mCons (mTup (mCons (mC (.int 1)) (mCons (mC (.int 1)) mNil))) mNil))) (mCons (mC (.int 1)) (mCons (toE (mLst (mCons (mC (.int 0)) mNil))) mNil))))) (mTst (mArg m_law_made (mCons (mBin mulD (toE (mLst (mCons (mTup (mCons (mC (.int 1)) (mCons (mC (.int 1)) mNil))) mNil))) (mC (.int 13))) (mCons (mC (.int 1)) (mCons (toE (mLst (mCons (mC (.int 0)) mNil))) mNil)))))))) (mRet (mC (.bl false))) mEnd) (mRet (mAndV (mArg m_law_made (mCons (mBin mulD (toE (mLst (mCons (mTup (mCons (mC (.int 99)) (mCons (mC (.int 99)) mNil))) mNil))) (mC (.int 12))) (mCons (mC (.int 20)) (mCons (toE (mArg rngL (mCons (mC (.int 11)) mNil))) mNil)))) (mArg m_law_made (mCons (toE (mLst (mCons (mTup (mCons (mC (.int 1)) (mCons (mC (.int 99)) mNil))) (mCons (mTup (mCons (mC (.int 1)) (mCons (mC (.int 1)) mNil))) mNil)))) (mCons (mC (.int 1)) (mCons (toE (mLst (mCons (mBin modD (mVar 5) (mC (.int 2))) mNil))) mNil)))))))))))))))))))))
def m_law : List D → Res D := runD 13 b_law
end Cr
namespace Cr
open PySem L2
/-! typed readings of law_k17_rides, printed by tgen.py -/
structure C22 where
  ways : (TL (T2 Int Int))
  over : Int
  trains : (TL Int)
def e22 (o : C22) : List D := [enc o.ways, enc o.over, enc o.trains]
instance : Enc C22 := ⟨fun o => .obj 22 [Enc.en o.ways, Enc.en o.over, Enc.en o.trains]⟩
instance : NonN C22 := ⟨fun _ h => by cases h⟩
def t_ride_init (ways2 : (List (T2 Int Int))) (over3 : Int) (trains4 : (List Int)) : Res C22 :=
 (orR (!((decide ((2 : Int) ≤ (ways2.length : Int))) && (decide ((ways2.length : Int) ≤ (12 : Int))))) ((compS (fun _ => (.ok true)) (fun x5 =>
 (.ok (((decide ((1 : Int) ≤ x5.a)) && (decide (x5.a ≤ x5.b))) && (decide (x5.b ≤ (99 : Int)))))) ways2) >>= fun v6 =>
 (.ok (!(v6.all id)))) >>= fun b7 =>
 (if b7 = true then
 (.err (.own 4))
 else (if (!((decide ((1 : Int) ≤ over3)) && (decide (over3 ≤ (20 : Int))))) = true then
 (.err (.own 4))
 else (orR (!((decide ((1 : Int) ≤ (trains4.length : Int))) && (decide ((trains4.length : Int) < (ways2.length : Int))))) ((lenSetNT trains4) >>= fun v8 =>
 (.ok (!decide (v8 = (trains4.length : Int))))) >>= fun b9 =>
 (if b9 = true then
 (.err (.own 4))
 else ((compS (fun _ => (.ok true)) (fun x10 =>
 (.ok ((decide ((0 : Int) ≤ x10)) && (decide (x10 < (ways2.length : Int)))))) trains4) >>= fun v11 =>
 (if (!(v11.all id)) = true then
 (.err (.own 4))
 else (.ok (⟨(TL.mk ways2), over3, (TL.mk trains4)⟩ : C22)))))))))
theorem r_ride_init (ways2 : (List (T2 Int Int))) (over3 : Int) (trains4 : (List Int)) : Le e22 (m_ride_init [enc ways2, enc over3, enc trains4]) (t_ride_init ways2 over3 trains4) := by
  unfold m_ride_init b_ride_init t_ride_init
  exact le_in [.oo 22 [], .v (.d (enc ways2)), .v (.d (enc over3)), .v (.d (enc trains4)), .no, .no, .no] rfl (q_seq (q_if (c_or (c_okb (!((decide ((2 : Int) ≤ (ways2.length : Int))) && (decide ((ways2.length : Int) ≤ (12 : Int))))) (p_not (p_tst (p_chain (x := enc (2 : Int)) (y := enc (ways2.length : Int)) (z := enc (12 : Int)) rfl (p_arg (p_cons (x := enc ways2) rfl p_nil) (k_len ways2)) rfl rfl rfl))) (c_leaf (le_or fun _ => (le_simb (ρ := [.oo 22 [], .v (.d (enc ways2)), .v (.d (enc over3)), .v (.d (enc trains4)), .no, .no, .no]) (c_not (c_tst (c_arg (c_cons (c_toE (c_comp (c_okg (encs ways2) (p_unF (x := enc ways2) rfl (k_pairs _)) (c_leaf (e := encs) (le_comp [.oo 22 [], .v (.d (enc ways2)), .v (.d (enc over3)), .v (.d (enc trains4)), .no, .no, .no] rfl (fun x5 => [.oo 22 [], .v (.d (enc ways2)), .v (.d (enc over3)), .v (.d (enc trains4)), .no, .v (.d (enc x5.a)), .v (.d (enc x5.b))]) (fun x5 => rfl) (fun x5 => ⟨rfl⟩) (fun x5 => (le_sim (ρ := [.oo 22 [], .v (.d (enc ways2)), .v (.d (enc over3)), .v (.d (enc trains4)), .no, .v (.d (enc x5.a)), .v (.d (enc x5.b))]) (c_ok (((decide ((1 : Int) ≤ x5.a)) && (decide (x5.a ≤ x5.b))) && (decide (x5.b ≤ (99 : Int)))) (p_andV (p_chain (x := enc (1 : Int)) (y := enc x5.a) (z := enc x5.b) rfl rfl rfl rfl rfl) (p_bin (x := enc x5.b) (y := enc (99 : Int)) rfl rfl rfl)) (e_val (((decide ((1 : Int) ≤ x5.a)) && (decide (x5.a ≤ x5.b))) && (decide (x5.b ≤ (99 : Int)))) rfl))))) trivial fun v6 => (c_nil (c_ok (v6.all id) (k_all v6) (c_tru (e_val (!(v6.all id)) rfl)))))))))))))) trivial fun b7 => (q_ite (fun _ => (q_raise trivial)) (fun _ => (q_end (q_seq (q_if (c_okb (!((decide ((1 : Int) ≤ over3)) && (decide (over3 ≤ (20 : Int))))) (p_not (p_tst (p_chain (x := enc (1 : Int)) (y := enc over3) (z := enc (20 : Int)) rfl rfl rfl rfl rfl))) (q_ite (fun _ => (q_raise trivial)) (fun _ => (q_end (q_seq (q_if (c_or (c_okb (!((decide ((1 : Int) ≤ (trains4.length : Int))) && (decide ((trains4.length : Int) < (ways2.length : Int))))) (p_not (p_tst (p_chain (x := enc (1 : Int)) (y := enc (trains4.length : Int)) (z := enc (ways2.length : Int)) rfl (p_arg (p_cons (x := enc trains4) rfl p_nil) (k_len trains4)) (p_arg (p_cons (x := enc ways2) rfl p_nil) (k_len ways2)) rfl rfl))) (c_leaf (le_or fun _ => (le_simb (ρ := [.oo 22 [], .v (.d (enc ways2)), .v (.d (enc over3)), .v (.d (enc trains4)), .no, .no, .no]) (c_tst (c_bin (c_arg (c_cons (c_ok trains4 rfl (c_nil (c_leaf (le_lenSetN trains4) trivial fun v8 => (c_ok (trains4.length : Int) (p_arg (p_cons (x := enc trains4) rfl p_nil) (k_len trains4)) (c_ok (!decide (v8 = (trains4.length : Int))) (k_ne v8 (trains4.length : Int)) (c_tru (e_val (!decide (v8 = (trains4.length : Int))) rfl))))))))))))) trivial fun b9 => (q_ite (fun _ => (q_raise trivial)) (fun _ => (q_end (q_seq (q_if (c_not (c_tst (c_arg (c_cons (c_toE (c_comp (c_okg (encs trains4) (p_unF (x := enc trains4) rfl (k_lstOf _)) (c_leaf (e := encs) (le_comp [.oo 22 [], .v (.d (enc ways2)), .v (.d (enc over3)), .v (.d (enc trains4)), .no, .no, .no] rfl (fun x10 => [.oo 22 [], .v (.d (enc ways2)), .v (.d (enc over3)), .v (.d (enc trains4)), .v (.d (enc x10)), .no, .no]) (fun x10 => rfl) (fun x10 => ⟨rfl⟩) (fun x10 => (le_sim (ρ := [.oo 22 [], .v (.d (enc ways2)), .v (.d (enc over3)), .v (.d (enc trains4)), .v (.d (enc x10)), .no, .no]) (c_ok ((decide ((0 : Int) ≤ x10)) && (decide (x10 < (ways2.length : Int)))) (p_chain (x := enc (0 : Int)) (y := enc x10) (z := enc (ways2.length : Int)) rfl rfl (p_arg (p_cons (x := enc ways2) rfl p_nil) (k_lenL ways2)) rfl rfl) (e_val ((decide ((0 : Int) ≤ x10)) && (decide (x10 < (ways2.length : Int)))) rfl))))) trivial fun v11 => (c_nil (c_ok (v11.all id) (k_all v11) (c_tru (q_ite (fun _ => (q_raise trivial)) (fun _ => (q_end (q_seq (q_sset [] (fun d => [.oo 22 [("ways", .d d)], .v (.d (enc ways2)), .v (.d (enc over3)), .v (.d (enc trains4)), .no, .no, .no]) rfl rfl (fun _ => rfl) (c_ok (TL.mk ways2) (p_arg (p_cons (x := enc ways2) rfl p_nil) (k_tup ways2)) (q_seq (q_sset [("ways", .d (enc (TL.mk ways2)))] (fun d => [.oo 22 [("ways", .d (enc (TL.mk ways2))), ("over", .d d)], .v (.d (enc ways2)), .v (.d (enc over3)), .v (.d (enc trains4)), .no, .no, .no]) rfl rfl (fun _ => rfl) (c_ok over3 rfl (q_sset [("ways", .d (enc (TL.mk ways2))), ("over", .d (enc over3))] (fun d => [.oo 22 [("ways", .d (enc (TL.mk ways2))), ("over", .d (enc over3)), ("trains", .d d)], .v (.d (enc ways2)), .v (.d (enc over3)), .v (.d (enc trains4)), .no, .no, .no]) rfl rfl (fun _ => rfl) (c_ok (TL.mk trains4) (p_arg (p_cons (x := enc trains4) rfl p_nil) (k_tup trains4)) (s_in (⟨(TL.mk ways2), over3, (TL.mk trains4)⟩ : C22) rfl rfl)))))))))))))))))))))))))))))))))))))))))))))))
def t_ride_first (self12 : C22) : Res (T3 (TL (T3 Str Int Int)) Int Unit) :=
 ((compS (fun _ => (.ok true)) (fun x13 =>
 (.ok (⟨("held" : Str), x13, (0 : Int)⟩ : (T3 Str Int Int)))) self12.trains.l) >>= fun v14 =>
 (.ok (⟨(TL.mk v14), (0 : Int), ()⟩ : (T3 (TL (T3 Str Int Int)) Int Unit))))
theorem r_ride_first (self12 : C22) : Le enc (m_ride_first [enc self12]) (t_ride_first self12) := by
  unfold m_ride_first b_ride_first t_ride_first
  exact le_fn [.v (.d (enc self12)), .no] rfl (q_ret (c_tup (c_cons (c_arg (c_cons (c_toE (c_comp (c_okg (encs self12.trains.l) (p_unF (x := enc self12.trains) (p_un (x := enc self12) rfl rfl) (k_seqt _)) (c_leaf (e := encs) (le_comp [.v (.d (enc self12)), .no] rfl (fun x13 => [.v (.d (enc self12)), .v (.d (enc x13))]) (fun x13 => rfl) (fun x13 => ⟨rfl⟩) (fun x13 => (le_sim (ρ := [.v (.d (enc self12)), .v (.d (enc x13))]) (c_ok (⟨("held" : Str), x13, (0 : Int)⟩ : (T3 Str Int Int)) (p_tup (p_cons (x := enc ("held" : Str)) rfl (p_cons (x := enc x13) rfl (p_cons (x := enc (0 : Int)) rfl p_nil))) rfl) (e_val (⟨("held" : Str), x13, (0 : Int)⟩ : (T3 Str Int Int)) rfl))))) trivial fun v14 => (c_nil (c_ok (TL.mk v14) (k_tup v14) (c_cons (c_ok (0 : Int) rfl (c_cons (c_ok () rfl (c_nil (c_ok (⟨(TL.mk v14), (0 : Int), ()⟩ : (T3 (TL (T3 Str Int Int)) Int Unit)) (p_size rfl) (s_rt (⟨(TL.mk v14), (0 : Int), ()⟩ : (T3 (TL (T3 Str Int Int)) Int Unit)) rfl))))))))))))))))))
def t_ride_sensors (self15 : C22) : Res (List (T3 Str Int Int)) :=
 ((rngT (self15.ways.l.length : Int)) >>= fun v22 =>
 (foldT (fun (x23 : Int) (s16 : (List (T3 Str Int Int))) =>
 (extT s16 ([(⟨("sensor" : Str), x23, (0 : Int)⟩ : (T3 Str Int Int)), (⟨("sensor" : Str), x23, (1 : Int)⟩ : (T3 Str Int Int))] : (List (T3 Str Int Int))) >>= fun found24 =>
 (.ok found24))) v22 ([] : (List (T3 Str Int Int))) >>= fun s19 =>
 ((extT s19 ([(⟨("present" : Str), (0 : Int), (0 : Int)⟩ : (T3 Str Int Int)), (⟨("present" : Str), (0 : Int), (1 : Int)⟩ : (T3 Str Int Int))] : (List (T3 Str Int Int)))) >>= fun r25 =>
 (.ok r25))))
theorem r_ride_sensors (self15 : C22) : Le enc (m_ride_sensors [enc self15]) (t_ride_sensors self15) := by
  unfold m_ride_sensors b_ride_sensors t_ride_sensors
  exact le_fn [.v (.d (enc self15)), .no, .no] rfl (q_seq (q_setO (c_okg (encs ([] : (List (T3 Str Int Int)))) (p_lst p_nil rfl) (q_put (i := 1) [.v (.d (enc self15)), .v (.ol (encs ([] : (List (T3 Str Int Int))))), .no] rfl rfl (q_seq (q_for (c_arg (c_cons (c_ok (self15.ways.l.length : Int) (p_arg (p_cons (x := enc self15.ways) (p_un (x := enc self15) rfl rfl) p_nil) (k_lent self15.ways)) (c_nil (c_leaf (e := encs) (le_rng (self15.ways.l.length : Int)) trivial fun v22 => (q_fold (I := (fun (s : (List (T3 Str Int Int))) (ρ : Env) => ∃ u0 : Sl, ρ = [.v (.d (enc self15)), .v (.ol (encs s)), u0] ∧ fre u0)) (s0 := ([] : (List (T3 Str Int Int)))) ⟨.no, rfl, fre_no⟩ (by intro x23 s16 ρ h; obtain ⟨u17, rfl, w18⟩ := h; exact (q_opt [.v (.d (enc self15)), .v (.ol (encs s16)), .v (.d (enc x23))] (g_n (i := 2) (ok_fre rfl w18) rfl) (q_lm (encs s16) (fun ys => [.v (.d (enc self15)), .v (.ol ys), .v (.d (enc x23))]) rfl (fun _ => rfl) (c_cons (c_ok ([(⟨("sensor" : Str), x23, (0 : Int)⟩ : (T3 Str Int Int)), (⟨("sensor" : Str), x23, (1 : Int)⟩ : (T3 Str Int Int))] : (List (T3 Str Int Int))) (p_toE (p_lst (p_cons (x := enc (⟨("sensor" : Str), x23, (0 : Int)⟩ : (T3 Str Int Int))) (p_tup (p_cons (x := enc ("sensor" : Str)) rfl (p_cons (x := enc x23) rfl (p_cons (x := enc (0 : Int)) rfl p_nil))) rfl) (p_cons (x := enc (⟨("sensor" : Str), x23, (1 : Int)⟩ : (T3 Str Int Int))) (p_tup (p_cons (x := enc ("sensor" : Str)) rfl (p_cons (x := enc x23) rfl (p_cons (x := enc (1 : Int)) rfl p_nil))) rfl) p_nil)) rfl)) (c_nil (c_leaf (e := encs) (le_ext s16 ([(⟨("sensor" : Str), x23, (0 : Int)⟩ : (T3 Str Int Int)), (⟨("sensor" : Str), x23, (1 : Int)⟩ : (T3 Str Int Int))] : (List (T3 Str Int Int))) _ rfl) trivial fun found24 => (s_nx (s := found24) ⟨.v (.d (enc x23)), rfl, (fre_v _)⟩)))))))) (by intro s19 ρ h; obtain ⟨u20, rfl, w21⟩ := h; exact (q_ret (c_bin (c_ok s19 rfl (c_ok ([(⟨("present" : Str), (0 : Int), (0 : Int)⟩ : (T3 Str Int Int)), (⟨("present" : Str), (0 : Int), (1 : Int)⟩ : (T3 Str Int Int))] : (List (T3 Str Int Int))) (p_toE (p_lst (p_cons (x := enc (⟨("present" : Str), (0 : Int), (0 : Int)⟩ : (T3 Str Int Int))) (p_tup (p_cons (x := enc ("present" : Str)) rfl (p_cons (x := enc (0 : Int)) rfl (p_cons (x := enc (0 : Int)) rfl p_nil))) rfl) (p_cons (x := enc (⟨("present" : Str), (0 : Int), (1 : Int)⟩ : (T3 Str Int Int))) (p_tup (p_cons (x := enc ("present" : Str)) rfl (p_cons (x := enc (0 : Int)) rfl (p_cons (x := enc (1 : Int)) rfl p_nil))) rfl) p_nil)) rfl)) (c_leaf (le_addD s19 ([(⟨("present" : Str), (0 : Int), (0 : Int)⟩ : (T3 Str Int Int)), (⟨("present" : Str), (0 : Int), (1 : Int)⟩ : (T3 Str Int Int))] : (List (T3 Str Int Int))) _ _ rfl rfl) trivial fun r25 => (s_rt r25 rfl)))))))))))))))))))
def t_ride_calipers (self26 : C22) : Res (List (T3 Str Int Int)) :=
 ((rngT (self26.ways.l.length : Int)) >>= fun v33 =>
 (foldT (fun (x34 : Int) (s27 : (List (T3 Str Int Int))) =>
 (extT s27 ([(⟨("brake" : Str), x34, (0 : Int)⟩ : (T3 Str Int Int)), (⟨("brake" : Str), x34, (1 : Int)⟩ : (T3 Str Int Int))] : (List (T3 Str Int Int))) >>= fun found35 =>
 (.ok found35))) v33 ([] : (List (T3 Str Int Int))) >>= fun s30 =>
 (.ok s30)))
theorem r_ride_calipers (self26 : C22) : Le enc (m_ride_calipers [enc self26]) (t_ride_calipers self26) := by
  unfold m_ride_calipers b_ride_calipers t_ride_calipers
  exact le_fn [.v (.d (enc self26)), .no, .no] rfl (q_seq (q_setO (c_okg (encs ([] : (List (T3 Str Int Int)))) (p_lst p_nil rfl) (q_put (i := 1) [.v (.d (enc self26)), .v (.ol (encs ([] : (List (T3 Str Int Int))))), .no] rfl rfl (q_seq (q_for (c_arg (c_cons (c_ok (self26.ways.l.length : Int) (p_arg (p_cons (x := enc self26.ways) (p_un (x := enc self26) rfl rfl) p_nil) (k_lent self26.ways)) (c_nil (c_leaf (e := encs) (le_rng (self26.ways.l.length : Int)) trivial fun v33 => (q_fold (I := (fun (s : (List (T3 Str Int Int))) (ρ : Env) => ∃ u0 : Sl, ρ = [.v (.d (enc self26)), .v (.ol (encs s)), u0] ∧ fre u0)) (s0 := ([] : (List (T3 Str Int Int)))) ⟨.no, rfl, fre_no⟩ (by intro x34 s27 ρ h; obtain ⟨u28, rfl, w29⟩ := h; exact (q_opt [.v (.d (enc self26)), .v (.ol (encs s27)), .v (.d (enc x34))] (g_n (i := 2) (ok_fre rfl w29) rfl) (q_lm (encs s27) (fun ys => [.v (.d (enc self26)), .v (.ol ys), .v (.d (enc x34))]) rfl (fun _ => rfl) (c_cons (c_ok ([(⟨("brake" : Str), x34, (0 : Int)⟩ : (T3 Str Int Int)), (⟨("brake" : Str), x34, (1 : Int)⟩ : (T3 Str Int Int))] : (List (T3 Str Int Int))) (p_toE (p_lst (p_cons (x := enc (⟨("brake" : Str), x34, (0 : Int)⟩ : (T3 Str Int Int))) (p_tup (p_cons (x := enc ("brake" : Str)) rfl (p_cons (x := enc x34) rfl (p_cons (x := enc (0 : Int)) rfl p_nil))) rfl) (p_cons (x := enc (⟨("brake" : Str), x34, (1 : Int)⟩ : (T3 Str Int Int))) (p_tup (p_cons (x := enc ("brake" : Str)) rfl (p_cons (x := enc x34) rfl (p_cons (x := enc (1 : Int)) rfl p_nil))) rfl) p_nil)) rfl)) (c_nil (c_leaf (e := encs) (le_ext s27 ([(⟨("brake" : Str), x34, (0 : Int)⟩ : (T3 Str Int Int)), (⟨("brake" : Str), x34, (1 : Int)⟩ : (T3 Str Int Int))] : (List (T3 Str Int Int))) _ rfl) trivial fun found35 => (s_nx (s := found35) ⟨.v (.d (enc x34)), rfl, (fre_v _)⟩)))))))) (by intro s30 ρ h; obtain ⟨u31, rfl, w32⟩ := h; exact (q_frz [.v (.d (enc self26)), .v (.d (enc s30)), u31] rfl (q_ret (c_ok s30 rfl (s_rt s30 rfl)))))))))))))))))
def t_ride_parts (self36 : C22) : Res (List (T3 Str Int Int)) :=
 ((t_ride_sensors self36) >>= fun v37 =>
 ((t_ride_calipers self36) >>= fun v38 =>
 ((extT v37 v38) >>= fun r39 =>
 (.ok r39))))
theorem r_ride_parts (self36 : C22) : Le enc (m_ride_parts [enc self36]) (t_ride_parts self36) := by
  unfold m_ride_parts b_ride_parts t_ride_parts
  exact le_fn [.v (.d (enc self36))] rfl (q_ret (c_bin (c_mth _ (enc self36) rfl (fun K hK => c_ok self36 rfl hK) (c_nil (c_leaf (r_ride_sensors self36) trivial fun v37 => (c_mth _ (enc self36) rfl (fun K hK => c_ok self36 rfl hK) (c_nil (c_leaf (r_ride_calipers self36) trivial fun v38 => (c_leaf (le_addD v37 v38 _ _ rfl rfl) trivial fun r39 => (s_rt r39 rfl))))))))))
def t_law_cell (script40 : Scr) (k41 : Int) : Res Int :=
 (if (decide (k41 < (script40.l.length : Int))) = true then
 ((idxT script40.l k41) >>= fun v42 =>
 (.ok (if v42 < 0 then -v42 else v42)))
 else (.ok (0 : Int)))
theorem r_law_cell (script40 : Scr) (k41 : Int) : Le enc (m_law_cell [enc script40, enc k41]) (t_law_cell script40 k41) := by
  unfold m_law_cell b_law_cell t_law_cell
  exact le_fn [.v (.d (enc script40)), .v (.d (enc k41))] rfl (q_seq (q_if (c_okb (decide (k41 < (script40.l.length : Int))) (p_tst (p_bin (x := enc k41) (y := enc (script40.l.length : Int)) rfl (p_arg (p_cons (x := enc script40) rfl p_nil) (k_lens script40)) rfl)) (q_ite (fun _ => (q_ret (c_arg (c_cons (c_arg (c_cons (c_bin (c_ok script40 rfl (c_ok k41 rfl (c_leaf (le_idxs script40 k41) trivial fun v42 => (c_nil (c_ok v42 rfl (c_nil (c_ok (if v42 < 0 then -v42 else v42) rfl (s_rt (if v42 < 0 then -v42 else v42) rfl))))))))))))))) (fun _ => (q_end (q_ret (c_ok (0 : Int) rfl (s_rt (0 : Int) rfl)))))))))
def t_law_draws (cell43 : Int) (count44 : Int) : Res (List Int) :=
 ((rngT count44) >>= fun v55 =>
 (foldT (fun (x56 : Int) (s45 : ((List Int) × Int)) =>
 (if ((decide ((1000000000000000000 : Int) ≤ cell43)) && (decide ((0 : Int) < s45.2))) = true then
 (appT s45.1 (s45.2 % (4096 : Int)) >>= fun rows57 =>
 (letT (s45.2 / (4096 : Int)) fun left58 =>
 (.ok (rows57, left58))))
 else (letT (((cell43 * (48271 : Int)) + ((x56 + (1 : Int)) * (69621 : Int))) % (2147483647 : Int)) fun mixed59 =>
 ((mulT mixed59 mixed59) >>= fun v60 =>
 ((mulT (((v60 + (mixed59 * (16807 : Int))) + (x56 * (7919 : Int))) % (2147483629 : Int)) (((v60 + (mixed59 * (16807 : Int))) + (x56 * (7919 : Int))) % (2147483629 : Int))) >>= fun v61 =>
 (appT s45.1 (((((v61 + cell43) + ((13 : Int) * x56)) % (2147483587 : Int)) / (7 : Int)) % (4096 : Int)) >>= fun rows62 =>
 (.ok (rows62, s45.2)))))))) v55 (([] : (List Int)), cell43) >>= fun s50 =>
 (.ok s50.1)))
theorem r_law_draws (cell43 : Int) (count44 : Int) : Le enc (m_law_draws [enc cell43, enc count44]) (t_law_draws cell43 count44) := by
  unfold m_law_draws b_law_draws t_law_draws
  exact le_fn [.v (.d (enc cell43)), .v (.d (enc count44)), .no, .no, .no, .no] rfl (q_seq (q_setO (c_okg (encs ([] : (List Int))) (p_lst p_nil rfl) (q_put (i := 2) [.v (.d (enc cell43)), .v (.d (enc count44)), .v (.ol (encs ([] : (List Int)))), .no, .no, .no] rfl rfl (q_seq (q_set (c_ok cell43 rfl (q_put (i := 3) [.v (.d (enc cell43)), .v (.d (enc count44)), .v (.ol (encs ([] : (List Int)))), .v (.d (enc cell43)), .no, .no] rfl rfl (q_seq (q_for (c_arg (c_cons (c_ok count44 rfl (c_nil (c_leaf (e := encs) (le_rng count44) trivial fun v55 => (q_fold (I := (fun (s : ((List Int) × Int)) (ρ : Env) => ∃ u0 u1 : Sl, ρ = [.v (.d (enc cell43)), .v (.d (enc count44)), .v (.ol (encs s.1)), .v (.d (enc s.2)), u0, u1] ∧ fre u0 ∧ fre u1)) (s0 := (([] : (List Int)), cell43)) ⟨.no, .no, rfl, fre_no, fre_no⟩ (by intro x56 s45 ρ h; obtain ⟨u46, u48, rfl, w47, w49⟩ := h; exact (q_opt [.v (.d (enc cell43)), .v (.d (enc count44)), .v (.ol (encs s45.1)), .v (.d (enc s45.2)), .v (.d (enc x56)), u48] (g_n (i := 4) (ok_fre rfl w47) rfl) (q_if (c_okb ((decide ((1000000000000000000 : Int) ≤ cell43)) && (decide ((0 : Int) < s45.2))) (p_and (p_tst (p_bin (x := enc cell43) (y := enc (1000000000000000000 : Int)) rfl (p_bin (x := enc (10 : Int)) (y := enc (18 : Int)) rfl rfl (k_pow (10 : Int) (18 : Int) (1000000000000000000 : Int) (by decide) (by decide))) rfl)) (p_tst (p_bin (x := enc s45.2) (y := enc (0 : Int)) rfl rfl rfl))) (q_ite (fun _ => (q_seq (q_lm (encs s45.1) (fun ys => [.v (.d (enc cell43)), .v (.d (enc count44)), .v (.ol ys), .v (.d (enc s45.2)), .v (.d (enc x56)), u48]) rfl (fun _ => rfl) (c_cons (c_ok (s45.2 % (4096 : Int)) (p_bin (x := enc s45.2) (y := enc (4096 : Int)) (p_arg (p_cons (x := enc s45.2) rfl p_nil) rfl) rfl (k_mod s45.2 (4096 : Int) (by decide))) (c_nil (c_leaf (e := encs) (le_app s45.1 (s45.2 % (4096 : Int)) _ rfl) trivial fun rows57 => (q_set (c_okL (s45.2 / (4096 : Int)) (p_bin (x := enc s45.2) (y := enc (4096 : Int)) rfl rfl (k_fdiv s45.2 (4096 : Int) (by decide))) fun left58 => (q_put (i := 3) [.v (.d (enc cell43)), .v (.d (enc count44)), .v (.ol (encs rows57)), .v (.d (enc left58)), .v (.d (enc x56)), u48] rfl rfl (s_nx (s := (rows57, left58)) ⟨.v (.d (enc x56)), u48, rfl, (fre_v _), w49⟩))))))))))) (fun _ => (q_seq (q_set (c_okL (((cell43 * (48271 : Int)) + ((x56 + (1 : Int)) * (69621 : Int))) % (2147483647 : Int)) (p_bin (x := enc ((cell43 * (48271 : Int)) + ((x56 + (1 : Int)) * (69621 : Int)))) (y := enc (2147483647 : Int)) (p_arg (p_cons (x := enc ((cell43 * (48271 : Int)) + ((x56 + (1 : Int)) * (69621 : Int)))) (p_bin (x := enc (cell43 * (48271 : Int))) (y := enc ((x56 + (1 : Int)) * (69621 : Int))) (p_bin (x := enc cell43) (y := enc (48271 : Int)) rfl rfl (k_mulr cell43 (48271 : Int) (by decide))) (p_bin (x := enc (x56 + (1 : Int))) (y := enc (69621 : Int)) (p_bin (x := enc x56) (y := enc (1 : Int)) rfl rfl rfl) rfl (k_mulr (x56 + (1 : Int)) (69621 : Int) (by decide))) rfl) p_nil) rfl) rfl (k_mod ((cell43 * (48271 : Int)) + ((x56 + (1 : Int)) * (69621 : Int))) (2147483647 : Int) (by decide))) fun mixed59 => (q_put (i := 5) [.v (.d (enc cell43)), .v (.d (enc count44)), .v (.ol (encs s45.1)), .v (.d (enc s45.2)), .v (.d (enc x56)), .v (.d (enc mixed59))] (ok_fre rfl w49) rfl (q_seq (q_set (c_bin (c_arg (c_cons (c_bin (c_bin (c_bin (c_ok mixed59 rfl (c_ok mixed59 rfl (c_leaf (le_mul mixed59 mixed59) trivial fun v60 => (c_ok (mixed59 * (16807 : Int)) (p_bin (x := enc mixed59) (y := enc (16807 : Int)) rfl rfl (k_mulr mixed59 (16807 : Int) (by decide))) (c_ok (v60 + (mixed59 * (16807 : Int))) rfl (c_ok (x56 * (7919 : Int)) (p_bin (x := enc x56) (y := enc (7919 : Int)) rfl rfl (k_mulr x56 (7919 : Int) (by decide))) (c_ok ((v60 + (mixed59 * (16807 : Int))) + (x56 * (7919 : Int))) rfl (c_nil (c_ok ((v60 + (mixed59 * (16807 : Int))) + (x56 * (7919 : Int))) rfl (c_ok (2147483629 : Int) rfl (c_ok (((v60 + (mixed59 * (16807 : Int))) + (x56 * (7919 : Int))) % (2147483629 : Int)) (k_mod ((v60 + (mixed59 * (16807 : Int))) + (x56 * (7919 : Int))) (2147483629 : Int) (by decide)) (q_put (i := 5) [.v (.d (enc cell43)), .v (.d (enc count44)), .v (.ol (encs s45.1)), .v (.d (enc s45.2)), .v (.d (enc x56)), .v (.d (enc (((v60 + (mixed59 * (16807 : Int))) + (x56 * (7919 : Int))) % (2147483629 : Int))))] rfl rfl (q_seq (q_set (c_bin (c_arg (c_cons (c_bin (c_bin (c_bin (c_ok (((v60 + (mixed59 * (16807 : Int))) + (x56 * (7919 : Int))) % (2147483629 : Int)) rfl (c_ok (((v60 + (mixed59 * (16807 : Int))) + (x56 * (7919 : Int))) % (2147483629 : Int)) rfl (c_leaf (le_mul (((v60 + (mixed59 * (16807 : Int))) + (x56 * (7919 : Int))) % (2147483629 : Int)) (((v60 + (mixed59 * (16807 : Int))) + (x56 * (7919 : Int))) % (2147483629 : Int))) trivial fun v61 => (c_ok cell43 rfl (c_ok (v61 + cell43) rfl (c_ok ((13 : Int) * x56) (p_bin (x := enc (13 : Int)) (y := enc x56) rfl rfl (k_mull (13 : Int) x56 (by decide))) (c_ok ((v61 + cell43) + ((13 : Int) * x56)) rfl (c_nil (c_ok ((v61 + cell43) + ((13 : Int) * x56)) rfl (c_ok (2147483587 : Int) rfl (c_ok (((v61 + cell43) + ((13 : Int) * x56)) % (2147483587 : Int)) (k_mod ((v61 + cell43) + ((13 : Int) * x56)) (2147483587 : Int) (by decide)) (q_put (i := 5) [.v (.d (enc cell43)), .v (.d (enc count44)), .v (.ol (encs s45.1)), .v (.d (enc s45.2)), .v (.d (enc x56)), .v (.d (enc (((v61 + cell43) + ((13 : Int) * x56)) % (2147483587 : Int))))] rfl rfl (q_lm (encs s45.1) (fun ys => [.v (.d (enc cell43)), .v (.d (enc count44)), .v (.ol ys), .v (.d (enc s45.2)), .v (.d (enc x56)), .v (.d (enc (((v61 + cell43) + ((13 : Int) * x56)) % (2147483587 : Int))))]) rfl (fun _ => rfl) (c_cons (c_ok (((((v61 + cell43) + ((13 : Int) * x56)) % (2147483587 : Int)) / (7 : Int)) % (4096 : Int)) (p_bin (x := enc ((((v61 + cell43) + ((13 : Int) * x56)) % (2147483587 : Int)) / (7 : Int))) (y := enc (4096 : Int)) (p_bin (x := enc (((v61 + cell43) + ((13 : Int) * x56)) % (2147483587 : Int))) (y := enc (7 : Int)) rfl rfl (k_fdiv (((v61 + cell43) + ((13 : Int) * x56)) % (2147483587 : Int)) (7 : Int) (by decide))) rfl (k_mod ((((v61 + cell43) + ((13 : Int) * x56)) % (2147483587 : Int)) / (7 : Int)) (4096 : Int) (by decide))) (c_nil (c_leaf (e := encs) (le_app s45.1 (((((v61 + cell43) + ((13 : Int) * x56)) % (2147483587 : Int)) / (7 : Int)) % (4096 : Int)) _ rfl) trivial fun rows62 => (s_nx (s := (rows62, s45.2)) ⟨.v (.d (enc x56)), .v (.d (enc (((v61 + cell43) + ((13 : Int) * x56)) % (2147483587 : Int)))), rfl, (fre_v _), (fre_v _)⟩)))))))))))))))))))))))))))))))))))))))))))))))))))))))) (by intro s50 ρ h; obtain ⟨u51, u53, rfl, w52, w54⟩ := h; exact (q_frz [.v (.d (enc cell43)), .v (.d (enc count44)), .v (.d (enc s50.1)), .v (.d (enc s50.2)), u51, u53] rfl (q_ret (c_ok s50.1 rfl (s_rt s50.1 rfl)))))))))))))))))))))
def t_law_ride (draws63 : (List Int)) (most64 : Int) : Res (R3 (List (T2 Int Int)) Int (List Int)) :=
 ((idxT draws63 (0 : Int)) >>= fun v65 =>
 ((modT v65 (most64 - (1 : Int))) >>= fun v66 =>
 ((rngT ((2 : Int) + v66)) >>= fun v77 =>
 (foldT (fun (x78 : Int) (s67 : (List (T2 Int Int))) =>
 ((idxT draws63 ((1 : Int) + x78)) >>= fun v79 =>
 ((idxT draws63 ((1 : Int) + x78)) >>= fun v80 =>
 (appT s67 (⟨((1 : Int) + (v79 % (3 : Int))), (((1 : Int) + (v79 % (3 : Int))) + ((v80 / (3 : Int)) % (3 : Int)))⟩ : (T2 Int Int)) >>= fun ways81 =>
 (.ok ways81))))) v77 ([] : (List (T2 Int Int))) >>= fun s72 =>
 ((idxT draws63 (9 : Int)) >>= fun v96 =>
 ((modT v96 (max (1 : Int) (((2 : Int) + v66) - (1 : Int)))) >>= fun v97 =>
 ((rngT ((1 : Int) + v97)) >>= fun v98 =>
 (foldT (fun (x99 : Int) (s82 : (List Int)) =>
 ((idxT draws63 ((10 : Int) + x99)) >>= fun v100 =>
 ((modT v100 ((2 : Int) + v66)) >>= fun block101 =>
 ((rngT ((2 : Int) + v66)) >>= fun v108 =>
 (foldT (fun (x109 : Int) (s102 : Int) =>
 (if (decide (s102 ∈ s82)) = true then
 ((modT (s102 + (1 : Int)) ((2 : Int) + v66)) >>= fun block110 =>
 (.ok block110))
 else (.ok s102))) v108 block101 >>= fun s105 =>
 (appT s82 s105 >>= fun trains111 =>
 (.ok trains111))))))) v98 ([] : (List Int)) >>= fun s89 =>
 ((idxT draws63 (16 : Int)) >>= fun v112 =>
 (.ok (⟨s72, ((1 : Int) + (v112 % (3 : Int))), s89⟩ : (R3 (List (T2 Int Int)) Int (List Int)))))))))))))
theorem r_law_ride (draws63 : (List Int)) (most64 : Int) : Le enc (m_law_ride [enc draws63, enc most64]) (t_law_ride draws63 most64) := by
  unfold m_law_ride b_law_ride t_law_ride
  exact le_fn [.v (.d (enc draws63)), .v (.d (enc most64)), .no, .no, .no, .no, .no, .no, .no] rfl (q_seq (q_set (c_bin (c_ok (2 : Int) rfl (c_bin (c_bin (c_ok draws63 rfl (c_ok (0 : Int) rfl (c_leaf (le_idx draws63 (0 : Int)) trivial fun v65 => (c_ok (most64 - (1 : Int)) (p_bin (x := enc most64) (y := enc (1 : Int)) rfl rfl rfl) (c_leaf (le_mod v65 (most64 - (1 : Int))) trivial fun v66 => (c_ok ((2 : Int) + v66) rfl (q_put (i := 2) [.v (.d (enc draws63)), .v (.d (enc most64)), .v (.d (enc ((2 : Int) + v66))), .no, .no, .no, .no, .no, .no] rfl rfl (q_seq (q_setO (c_okg (encs ([] : (List (T2 Int Int)))) (p_lst p_nil rfl) (q_put (i := 3) [.v (.d (enc draws63)), .v (.d (enc most64)), .v (.d (enc ((2 : Int) + v66))), .v (.ol (encs ([] : (List (T2 Int Int))))), .no, .no, .no, .no, .no] rfl rfl (q_seq (q_for (c_arg (c_cons (c_ok ((2 : Int) + v66) rfl (c_nil (c_leaf (e := encs) (le_rng ((2 : Int) + v66)) trivial fun v77 => (q_fold (I := (fun (s : (List (T2 Int Int))) (ρ : Env) => ∃ u0 u1 : Sl, ρ = [.v (.d (enc draws63)), .v (.d (enc most64)), .v (.d (enc ((2 : Int) + v66))), .v (.ol (encs s)), u0, .no, u1, .no, .no] ∧ fre u0 ∧ fre u1)) (s0 := ([] : (List (T2 Int Int)))) ⟨.no, .no, rfl, fre_no, fre_no⟩ (by intro x78 s67 ρ h; obtain ⟨u68, u70, rfl, w69, w71⟩ := h; exact (q_opt [.v (.d (enc draws63)), .v (.d (enc most64)), .v (.d (enc ((2 : Int) + v66))), .v (.ol (encs s67)), .v (.d (enc x78)), .no, u70, .no, .no] (g_n (i := 4) (ok_fre rfl w69) rfl) (q_seq (q_set (c_bin (c_ok (1 : Int) rfl (c_bin (c_bin (c_ok draws63 rfl (c_ok ((1 : Int) + x78) (p_bin (x := enc (1 : Int)) (y := enc x78) rfl rfl rfl) (c_leaf (le_idx draws63 ((1 : Int) + x78)) trivial fun v79 => (c_ok (3 : Int) rfl (c_ok (v79 % (3 : Int)) (k_mod v79 (3 : Int) (by decide)) (c_ok ((1 : Int) + (v79 % (3 : Int))) rfl (q_put (i := 6) [.v (.d (enc draws63)), .v (.d (enc most64)), .v (.d (enc ((2 : Int) + v66))), .v (.ol (encs s67)), .v (.d (enc x78)), .no, .v (.d (enc ((1 : Int) + (v79 % (3 : Int))))), .no, .no] (ok_fre rfl w71) rfl (q_lm (encs s67) (fun ys => [.v (.d (enc draws63)), .v (.d (enc most64)), .v (.d (enc ((2 : Int) + v66))), .v (.ol ys), .v (.d (enc x78)), .no, .v (.d (enc ((1 : Int) + (v79 % (3 : Int))))), .no, .no]) rfl (fun _ => rfl) (c_cons (c_tup (c_cons (c_ok ((1 : Int) + (v79 % (3 : Int))) rfl (c_cons (c_bin (c_ok ((1 : Int) + (v79 % (3 : Int))) rfl (c_bin (c_bin (c_bin (c_ok draws63 rfl (c_ok ((1 : Int) + x78) (p_bin (x := enc (1 : Int)) (y := enc x78) rfl rfl rfl) (c_leaf (le_idx draws63 ((1 : Int) + x78)) trivial fun v80 => (c_ok (3 : Int) rfl (c_ok (v80 / (3 : Int)) (k_fdiv v80 (3 : Int) (by decide)) (c_ok (3 : Int) rfl (c_ok ((v80 / (3 : Int)) % (3 : Int)) (k_mod (v80 / (3 : Int)) (3 : Int) (by decide)) (c_ok (((1 : Int) + (v79 % (3 : Int))) + ((v80 / (3 : Int)) % (3 : Int))) rfl (c_nil (c_ok (⟨((1 : Int) + (v79 % (3 : Int))), (((1 : Int) + (v79 % (3 : Int))) + ((v80 / (3 : Int)) % (3 : Int)))⟩ : (T2 Int Int)) (p_size rfl) (c_nil (c_leaf (e := encs) (le_app s67 (⟨((1 : Int) + (v79 % (3 : Int))), (((1 : Int) + (v79 % (3 : Int))) + ((v80 / (3 : Int)) % (3 : Int)))⟩ : (T2 Int Int)) _ rfl) trivial fun ways81 => (s_nx (s := ways81) ⟨.v (.d (enc x78)), .v (.d (enc ((1 : Int) + (v79 % (3 : Int))))), rfl, (fre_v _), (fre_v _)⟩))))))))))))))))))))))))))))))))))))))) (by intro s72 ρ h; obtain ⟨u73, u75, rfl, w74, w76⟩ := h; exact (q_seq (q_setO (c_okg (encs ([] : (List Int))) (p_lst p_nil rfl) (q_put (i := 5) [.v (.d (enc draws63)), .v (.d (enc most64)), .v (.d (enc ((2 : Int) + v66))), .v (.ol (encs s72)), u73, .v (.ol (encs ([] : (List Int)))), u75, .no, .no] rfl rfl (q_seq (q_for (c_arg (c_cons (c_bin (c_ok (1 : Int) rfl (c_bin (c_bin (c_ok draws63 rfl (c_ok (9 : Int) rfl (c_leaf (le_idx draws63 (9 : Int)) trivial fun v96 => (c_ok (max (1 : Int) (((2 : Int) + v66) - (1 : Int))) (p_arg (p_cons (x := enc (1 : Int)) rfl (p_cons (x := enc (((2 : Int) + v66) - (1 : Int))) (p_bin (x := enc ((2 : Int) + v66)) (y := enc (1 : Int)) rfl rfl rfl) p_nil)) rfl) (c_leaf (le_mod v96 (max (1 : Int) (((2 : Int) + v66) - (1 : Int)))) trivial fun v97 => (c_ok ((1 : Int) + v97) rfl (c_nil (c_leaf (e := encs) (le_rng ((1 : Int) + v97)) trivial fun v98 => (q_fold (I := (fun (s : (List Int)) (ρ : Env) => ∃ u0 u1 u2 : Sl, ρ = [.v (.d (enc draws63)), .v (.d (enc most64)), .v (.d (enc ((2 : Int) + v66))), .v (.ol (encs s72)), u0, .v (.ol (encs s)), u75, u1, u2] ∧ fre u0 ∧ fre u1 ∧ fre u2)) (s0 := ([] : (List Int))) ⟨u73, .no, .no, rfl, w74, fre_no, fre_no⟩ (by intro x99 s82 ρ h; obtain ⟨u83, u85, u87, rfl, w84, w86, w88⟩ := h; exact (q_opt [.v (.d (enc draws63)), .v (.d (enc most64)), .v (.d (enc ((2 : Int) + v66))), .v (.ol (encs s72)), .v (.d (enc x99)), .v (.ol (encs s82)), u75, u85, u87] (g_n (i := 4) (ok_fre rfl w84) rfl) (q_seq (q_set (c_bin (c_bin (c_ok draws63 rfl (c_ok ((10 : Int) + x99) (p_bin (x := enc (10 : Int)) (y := enc x99) rfl rfl rfl) (c_leaf (le_idx draws63 ((10 : Int) + x99)) trivial fun v100 => (c_ok ((2 : Int) + v66) rfl (c_leaf (le_mod v100 ((2 : Int) + v66)) trivial fun block101 => (q_put (i := 7) [.v (.d (enc draws63)), .v (.d (enc most64)), .v (.d (enc ((2 : Int) + v66))), .v (.ol (encs s72)), .v (.d (enc x99)), .v (.ol (encs s82)), u75, .v (.d (enc block101)), u87] (ok_fre rfl w86) rfl (q_seq (q_for (c_arg (c_cons (c_ok ((2 : Int) + v66) rfl (c_nil (c_leaf (e := encs) (le_rng ((2 : Int) + v66)) trivial fun v108 => (q_fold (I := (fun (s : Int) (ρ : Env) => ∃ u0 : Sl, ρ = [.v (.d (enc draws63)), .v (.d (enc most64)), .v (.d (enc ((2 : Int) + v66))), .v (.ol (encs s72)), .v (.d (enc x99)), .v (.ol (encs s82)), u75, .v (.d (enc s)), u0] ∧ fre u0)) (s0 := block101) ⟨u87, rfl, w88⟩ (by intro x109 s102 ρ h; obtain ⟨u103, rfl, w104⟩ := h; exact (q_opt [.v (.d (enc draws63)), .v (.d (enc most64)), .v (.d (enc ((2 : Int) + v66))), .v (.ol (encs s72)), .v (.d (enc x99)), .v (.ol (encs s82)), u75, .v (.d (enc s102)), .v (.d (enc x109))] (g_n (i := 8) (ok_fre rfl w104) rfl) (q_if (c_okb (decide (s102 ∈ s82)) (p_tst (p_bin (x := enc s102) (y := enc s82) rfl rfl (k_in s102 s82))) (q_ite (fun _ => (q_set (c_bin (c_ok (s102 + (1 : Int)) (p_bin (x := enc s102) (y := enc (1 : Int)) rfl rfl rfl) (c_ok ((2 : Int) + v66) rfl (c_leaf (le_mod (s102 + (1 : Int)) ((2 : Int) + v66)) trivial fun block110 => (q_put (i := 7) [.v (.d (enc draws63)), .v (.d (enc most64)), .v (.d (enc ((2 : Int) + v66))), .v (.ol (encs s72)), .v (.d (enc x99)), .v (.ol (encs s82)), u75, .v (.d (enc block110)), .v (.d (enc x109))] rfl rfl (s_nx (s := block110) ⟨.v (.d (enc x109)), rfl, (fre_v _)⟩)))))))) (fun _ => (q_end (s_nx (s := s102) ⟨.v (.d (enc x109)), rfl, (fre_v _)⟩)))))))) (by intro s105 ρ h; obtain ⟨u106, rfl, w107⟩ := h; exact (q_lm (encs s82) (fun ys => [.v (.d (enc draws63)), .v (.d (enc most64)), .v (.d (enc ((2 : Int) + v66))), .v (.ol (encs s72)), .v (.d (enc x99)), .v (.ol ys), u75, .v (.d (enc s105)), u106]) rfl (fun _ => rfl) (c_cons (c_ok s105 rfl (c_nil (c_leaf (e := encs) (le_app s82 s105 _ rfl) trivial fun trains111 => (s_nx (s := trains111) ⟨.v (.d (enc x99)), .v (.d (enc s105)), u106, rfl, (fre_v _), (fre_v _), w107⟩))))))))))))))))))))))))))) (by intro s89 ρ h; obtain ⟨u90, u92, u94, rfl, w91, w93, w95⟩ := h; exact (q_frz [.v (.d (enc draws63)), .v (.d (enc most64)), .v (.d (enc ((2 : Int) + v66))), .v (.d (enc s72)), u90, .v (.ol (encs s89)), u75, u92, u94] rfl (q_frz [.v (.d (enc draws63)), .v (.d (enc most64)), .v (.d (enc ((2 : Int) + v66))), .v (.d (enc s72)), u90, .v (.d (enc s89)), u75, u92, u94] rfl (q_ret (c_toE (c_lst (c_cons (c_ok s72 rfl (c_cons (c_bin (c_ok (1 : Int) rfl (c_bin (c_bin (c_ok draws63 rfl (c_ok (16 : Int) rfl (c_leaf (le_idx draws63 (16 : Int)) trivial fun v112 => (c_ok (3 : Int) rfl (c_ok (v112 % (3 : Int)) (k_mod v112 (3 : Int) (by decide)) (c_ok ((1 : Int) + (v112 % (3 : Int))) rfl (c_cons (c_ok s89 rfl (c_nil (c_okg [enc (⟨s72, ((1 : Int) + (v112 % (3 : Int))), s89⟩ : (R3 (List (T2 Int Int)) Int (List Int))).a, enc (⟨s72, ((1 : Int) + (v112 % (3 : Int))), s89⟩ : (R3 (List (T2 Int Int)) Int (List Int))).b, enc (⟨s72, ((1 : Int) + (v112 % (3 : Int))), s89⟩ : (R3 (List (T2 Int Int)) Int (List Int))).c] (p_size rfl) (s_rt (⟨s72, ((1 : Int) + (v112 % (3 : Int))), s89⟩ : (R3 (List (T2 Int Int)) Int (List Int))) rfl)))))))))))))))))))))))))))))))))))))))))))))))))))))))))))))))))))))))
def t_law_parts (count113 : Int) : Res (List (T3 Str Int Int)) :=
 (letT ([] : (List (T3 Str Int Int))) fun found114 =>
 ((rngT count113) >>= fun v121 =>
 (foldT (fun (x122 : Int) (s115 : (List (T3 Str Int Int))) =>
 ((extT s115 ([(⟨("sensor" : Str), x122, (0 : Int)⟩ : (T3 Str Int Int)), (⟨("sensor" : Str), x122, (1 : Int)⟩ : (T3 Str Int Int))] : (List (T3 Str Int Int)))) >>= fun found123 =>
 (.ok found123))) v121 found114 >>= fun s118 =>
 ((extT s118 ([(⟨("present" : Str), (0 : Int), (0 : Int)⟩ : (T3 Str Int Int)), (⟨("present" : Str), (0 : Int), (1 : Int)⟩ : (T3 Str Int Int))] : (List (T3 Str Int Int)))) >>= fun found124 =>
 ((rngT count113) >>= fun v131 =>
 (foldT (fun (x132 : Int) (s125 : (List (T3 Str Int Int))) =>
 ((extT s125 ([(⟨("brake" : Str), x132, (0 : Int)⟩ : (T3 Str Int Int)), (⟨("brake" : Str), x132, (1 : Int)⟩ : (T3 Str Int Int))] : (List (T3 Str Int Int)))) >>= fun found133 =>
 (.ok found133))) v131 found124 >>= fun s128 =>
 (.ok s128)))))))
theorem r_law_parts (count113 : Int) : Le enc (m_law_parts [enc count113]) (t_law_parts count113) := by
  unfold m_law_parts b_law_parts t_law_parts
  exact le_fn [.v (.d (enc count113)), .no, .no] rfl (q_seq (q_set (c_okL ([] : (List (T3 Str Int Int))) (p_toE (p_lst p_nil rfl)) fun found114 => (q_put (i := 1) [.v (.d (enc count113)), .v (.d (enc found114)), .no] rfl rfl (q_seq (q_for (c_arg (c_cons (c_ok count113 rfl (c_nil (c_leaf (e := encs) (le_rng count113) trivial fun v121 => (q_fold (I := (fun (s : (List (T3 Str Int Int))) (ρ : Env) => ∃ u0 : Sl, ρ = [.v (.d (enc count113)), .v (.d (enc s)), u0] ∧ fre u0)) (s0 := found114) ⟨.no, rfl, fre_no⟩ (by intro x122 s115 ρ h; obtain ⟨u116, rfl, w117⟩ := h; exact (q_opt [.v (.d (enc count113)), .v (.d (enc s115)), .v (.d (enc x122))] (g_n (i := 2) (ok_fre rfl w117) rfl) (q_set (c_bin (c_ok s115 rfl (c_ok ([(⟨("sensor" : Str), x122, (0 : Int)⟩ : (T3 Str Int Int)), (⟨("sensor" : Str), x122, (1 : Int)⟩ : (T3 Str Int Int))] : (List (T3 Str Int Int))) (p_toE (p_lst (p_cons (x := enc (⟨("sensor" : Str), x122, (0 : Int)⟩ : (T3 Str Int Int))) (p_tup (p_cons (x := enc ("sensor" : Str)) rfl (p_cons (x := enc x122) rfl (p_cons (x := enc (0 : Int)) rfl p_nil))) rfl) (p_cons (x := enc (⟨("sensor" : Str), x122, (1 : Int)⟩ : (T3 Str Int Int))) (p_tup (p_cons (x := enc ("sensor" : Str)) rfl (p_cons (x := enc x122) rfl (p_cons (x := enc (1 : Int)) rfl p_nil))) rfl) p_nil)) rfl)) (c_leaf (le_addD s115 ([(⟨("sensor" : Str), x122, (0 : Int)⟩ : (T3 Str Int Int)), (⟨("sensor" : Str), x122, (1 : Int)⟩ : (T3 Str Int Int))] : (List (T3 Str Int Int))) _ _ rfl rfl) trivial fun found123 => (q_put (i := 1) [.v (.d (enc count113)), .v (.d (enc found123)), .v (.d (enc x122))] rfl rfl (s_nx (s := found123) ⟨.v (.d (enc x122)), rfl, (fre_v _)⟩))))))))) (by intro s118 ρ h; obtain ⟨u119, rfl, w120⟩ := h; exact (q_seq (q_set (c_bin (c_ok s118 rfl (c_ok ([(⟨("present" : Str), (0 : Int), (0 : Int)⟩ : (T3 Str Int Int)), (⟨("present" : Str), (0 : Int), (1 : Int)⟩ : (T3 Str Int Int))] : (List (T3 Str Int Int))) (p_toE (p_lst (p_cons (x := enc (⟨("present" : Str), (0 : Int), (0 : Int)⟩ : (T3 Str Int Int))) (p_tup (p_cons (x := enc ("present" : Str)) rfl (p_cons (x := enc (0 : Int)) rfl (p_cons (x := enc (0 : Int)) rfl p_nil))) rfl) (p_cons (x := enc (⟨("present" : Str), (0 : Int), (1 : Int)⟩ : (T3 Str Int Int))) (p_tup (p_cons (x := enc ("present" : Str)) rfl (p_cons (x := enc (0 : Int)) rfl (p_cons (x := enc (1 : Int)) rfl p_nil))) rfl) p_nil)) rfl)) (c_leaf (le_addD s118 ([(⟨("present" : Str), (0 : Int), (0 : Int)⟩ : (T3 Str Int Int)), (⟨("present" : Str), (0 : Int), (1 : Int)⟩ : (T3 Str Int Int))] : (List (T3 Str Int Int))) _ _ rfl rfl) trivial fun found124 => (q_put (i := 1) [.v (.d (enc count113)), .v (.d (enc found124)), u119] rfl rfl (q_seq (q_for (c_arg (c_cons (c_ok count113 rfl (c_nil (c_leaf (e := encs) (le_rng count113) trivial fun v131 => (q_fold (I := (fun (s : (List (T3 Str Int Int))) (ρ : Env) => ∃ u0 : Sl, ρ = [.v (.d (enc count113)), .v (.d (enc s)), u0] ∧ fre u0)) (s0 := found124) ⟨u119, rfl, w120⟩ (by intro x132 s125 ρ h; obtain ⟨u126, rfl, w127⟩ := h; exact (q_opt [.v (.d (enc count113)), .v (.d (enc s125)), .v (.d (enc x132))] (g_n (i := 2) (ok_fre rfl w127) rfl) (q_set (c_bin (c_ok s125 rfl (c_ok ([(⟨("brake" : Str), x132, (0 : Int)⟩ : (T3 Str Int Int)), (⟨("brake" : Str), x132, (1 : Int)⟩ : (T3 Str Int Int))] : (List (T3 Str Int Int))) (p_toE (p_lst (p_cons (x := enc (⟨("brake" : Str), x132, (0 : Int)⟩ : (T3 Str Int Int))) (p_tup (p_cons (x := enc ("brake" : Str)) rfl (p_cons (x := enc x132) rfl (p_cons (x := enc (0 : Int)) rfl p_nil))) rfl) (p_cons (x := enc (⟨("brake" : Str), x132, (1 : Int)⟩ : (T3 Str Int Int))) (p_tup (p_cons (x := enc ("brake" : Str)) rfl (p_cons (x := enc x132) rfl (p_cons (x := enc (1 : Int)) rfl p_nil))) rfl) p_nil)) rfl)) (c_leaf (le_addD s125 ([(⟨("brake" : Str), x132, (0 : Int)⟩ : (T3 Str Int Int)), (⟨("brake" : Str), x132, (1 : Int)⟩ : (T3 Str Int Int))] : (List (T3 Str Int Int))) _ _ rfl rfl) trivial fun found133 => (q_put (i := 1) [.v (.d (enc count113)), .v (.d (enc found133)), .v (.d (enc x132))] rfl rfl (s_nx (s := found133) ⟨.v (.d (enc x132)), rfl, (fre_v _)⟩))))))))) (by intro s128 ρ h; obtain ⟨u129, rfl, w130⟩ := h; exact (q_ret (c_ok s128 rfl (s_rt s128 rfl))))))))))))))))))))))))))))))))
def t_law_made (ways134 : (List (T2 Int Int))) (over135 : Int) (trains136 : (List Int)) : Res Bool :=
 (onF (tryT [4] 4 ((t_ride_init ways134 over135 trains136) >>= fun v138 =>
 (.ok (.nxt ()))) (.ok (.ret false)) : Res (Fl Bool Unit)) (fun r => .ok r) fun s137 =>
 (.ok true))
theorem r_law_made (ways134 : (List (T2 Int Int))) (over135 : Int) (trains136 : (List Int)) : Le enc (m_law_made [enc ways134, enc over135, enc trains136]) (t_law_made ways134 over135 trains136) := by
  unfold m_law_made b_law_made t_law_made
  exact le_fn [.v (.d (enc ways134)), .v (.d (enc over135)), .v (.d (enc trains136))] rfl (q_seq (q_joinR (I := (fun (s : Unit) (ρ : Env) => ρ = [.v (.d (enc ways134)), .v (.d (enc over135)), .v (.d (enc trains136))])) (q_try (E' := (fun ρ => (fun (s : Unit) (ρ : Env) => ρ = [.v (.d (enc ways134)), .v (.d (enc over135)), .v (.d (enc trains136))]) () ρ)) hq_l hq_lb (q_ex (c_mk (c_cons (c_ok ways134 rfl (c_cons (c_ok over135 rfl (c_cons (c_ok trains136 rfl (c_nil (c_leaf (r_ride_init ways134 over135 trains136) rfl fun v138 => (s_nxR (s := ()) rfl))))))))))) (by intro ρ h; subst h; exact (q_ret (c_ok false rfl (s_rtR false rfl)))) (fun _ _ => trivial)) s_rt0 (by intro s137 ρ h; subst h; exact (q_ret (c_ok true rfl (s_rt true rfl))))))
def t_law (script139 : Scr) : Res Bool :=
 ((t_law_cell script139 (0 : Int)) >>= fun v140 =>
 ((t_law_draws v140 (20 : Int)) >>= fun draws141 =>
 ((t_law_ride draws141 (7 : Int)) >>= fun p142 =>
 (letT (p142.a.length : Int) fun count143 =>
 (letT (⟨p142.a, p142.c⟩ : (R2 (List (T2 Int Int)) (List Int))) fun handed144 =>
 ((t_ride_init handed144.a p142.b handed144.b) >>= fun ride145 =>
 (handT handed144.a handed144.b >>= fun _ =>
 ((likeR (m_law_like 8 [enc (⟨ride145.ways, ride145.over, ride145.trains⟩ : (R3 (TL (T2 Int Int)) Int (TL Int))), enc (⟨(TL.mk p142.a), p142.b, (TL.mk p142.c)⟩ : (R3 (TL (T2 Int Int)) Int (TL Int)))])) >>= fun v146 =>
 (if (!v146) = true then
 (.ok false)
 else ((t_ride_first ride145) >>= fun v147 =>
 ((compS (fun _ => (.ok true)) (fun x148 =>
 (.ok (⟨("held" : Str), x148, (0 : Int)⟩ : (T3 Str Int Int)))) p142.c) >>= fun v149 =>
 ((likeR (m_law_like 8 [enc v147, enc (⟨(TL.mk v149), (0 : Int), ()⟩ : (T3 (TL (T3 Str Int Int)) Int Unit))])) >>= fun v150 =>
 (orR (!v150) ((t_ride_parts ride145) >>= fun v151 =>
 ((t_law_parts count143) >>= fun v152 =>
 ((likeR (m_law_like 8 [enc v151, enc v152])) >>= fun v153 =>
 (.ok (!v153))))) >>= fun b154 =>
 (if b154 = true then
 (.ok false)
 else ((idxT draws141 (18 : Int)) >>= fun v155 =>
 ((modT v155 count143) >>= fun at156 =>
 ((t_law_cell script139 (1 : Int)) >>= fun v157 =>
 (onF (forT (R := Bool) (fun (x164 : (T2 Int Int)) (s158 : Unit) =>
 ((extT (cutG p142.a none (some at156)) ([x164] : (List (T2 Int Int)))) >>= fun v165 =>
 ((extT v165 (cutG p142.a (some (at156 + (1 : Int))) none)) >>= fun v166 =>
 ((t_law_made v166 p142.b p142.c) >>= fun v167 =>
 (if v167 = true then
 (.ok (.ret false))
 else (.ok (.nxt ()))))))) ([(⟨(0 : Int), (1 : Int)⟩ : (T2 Int Int)), (⟨(2 : Int), (1 : Int)⟩ : (T2 Int Int)), (⟨(1 : Int), ((100 : Int) + (v157 % (1000000000000000000000000000000 : Int)))⟩ : (T2 Int Int)), (⟨((0 : Int) - (v157 % (1000000000000000000000000000000 : Int))), (5 : Int)⟩ : (T2 Int Int)), (⟨(100 : Int), (100 : Int)⟩ : (T2 Int Int))] : (List (T2 Int Int))) ()) (fun r => .ok r) fun s161 =>
 ((extT p142.c (cutG p142.c none (some (1 : Int)))) >>= fun v174 =>
 ((rngLT count143) >>= fun v175 =>
 ((extT (cutG p142.c (some (1 : Int)) none) ([(count143 + (v157 % (1000000000000000000000000000000 : Int)))] : (List Int))) >>= fun v176 =>
 ((extT (cutG p142.c (some (1 : Int)) none) ([((-1 : Int) - (v157 % (1000000000000000000000000000000 : Int)))] : (List Int))) >>= fun v177 =>
 (onF (forT (R := Bool) (fun (x178 : (List Int)) (s168 : Unit) =>
 ((t_law_made p142.a p142.b x178) >>= fun v179 =>
 (if v179 = true then
 (.ok (.ret false))
 else (.ok (.nxt ()))))) ([([] : (List Int)), v174, v175, v176, v177] : (List (List Int))) ()) (fun r => .ok r) fun s171 =>
 ((t_law_made p142.a ((0 : Int) - (v157 % (1000000000000000000000000000000 : Int))) p142.c) >>= fun v180 =>
 (orR v180 ((t_law_made p142.a ((21 : Int) + (v157 % (1000000000000000000000000000000 : Int))) p142.c) >>= fun v181 =>
 (orR v181 ((t_law_made ([(⟨(1 : Int), (1 : Int)⟩ : (T2 Int Int))] : (List (T2 Int Int))) (1 : Int) ([(0 : Int)] : (List Int))) >>= fun v182 =>
 (orR v182 ((repT ([(⟨(1 : Int), (1 : Int)⟩ : (T2 Int Int))] : (List (T2 Int Int))) (13 : Int)) >>= fun v183 =>
 ((t_law_made v183 (1 : Int) ([(0 : Int)] : (List Int))) >>= fun v184 =>
 (.ok v184))) >>= fun b185 =>
 (.ok b185))) >>= fun b186 =>
 (.ok b186))) >>= fun b187 =>
 (if b187 = true then
 (.ok false)
 else ((repT ([(⟨(99 : Int), (99 : Int)⟩ : (T2 Int Int))] : (List (T2 Int Int))) (12 : Int)) >>= fun v188 =>
 ((rngLT (11 : Int)) >>= fun v189 =>
 ((t_law_made v188 (20 : Int) v189) >>= fun v190 =>
 ((andR v190 ((t_law_made ([(⟨(1 : Int), (99 : Int)⟩ : (T2 Int Int)), (⟨(1 : Int), (1 : Int)⟩ : (T2 Int Int))] : (List (T2 Int Int))) (1 : Int) ([(at156 % (2 : Int))] : (List Int))) >>= fun v191 =>
 (.ok v191))) >>= fun r192 =>
 (.ok r192)))))))))))))))))))))))))))))))
theorem r_law (script139 : Scr) : Le enc (m_law [enc script139]) (t_law script139) := by
  unfold m_law b_law t_law
  exact le_fn [.v (.d (enc script139)), .no, .no, .no, .no, .no, .no, .no, .no, .no, .no, .no, .no] rfl (q_seq (q_set (c_arg (c_cons (c_arg (c_cons (c_ok script139 rfl (c_cons (c_ok (0 : Int) rfl (c_nil (c_leaf (r_law_cell script139 (0 : Int)) trivial fun v140 => (c_cons (c_ok (20 : Int) rfl (c_nil (c_leaf (r_law_draws v140 (20 : Int)) trivial fun draws141 => (q_put (i := 1) [.v (.d (enc script139)), .v (.d (enc draws141)), .no, .no, .no, .no, .no, .no, .no, .no, .no, .no, .no] rfl rfl (q_seq (q_asg (c_arg (c_cons (c_ok draws141 rfl (c_cons (c_ok (7 : Int) rfl (c_nil (c_leaf (r_law_ride draws141 (7 : Int)) trivial fun p142 => (q_opt [.v (.d (enc script139)), .v (.d (enc draws141)), .no, .no, .no, .no, .no, .no, .no, .v (.d (enc p142.a)), .v (.d (enc p142.b)), .v (.d (enc p142.c)), .no] rfl (q_seq (q_set (c_okL (p142.a.length : Int) (p_arg (p_cons (x := enc p142.a) rfl p_nil) (k_len p142.a)) fun count143 => (q_put (i := 2) [.v (.d (enc script139)), .v (.d (enc draws141)), .v (.d (enc count143)), .no, .no, .no, .no, .no, .no, .v (.d (enc p142.a)), .v (.d (enc p142.b)), .v (.d (enc p142.c)), .no] rfl rfl (q_seq (q_set (c_okL (⟨p142.a, p142.c⟩ : (R2 (List (T2 Int Int)) (List Int))) (p_toE (p_lst (p_cons (x := enc p142.a) (p_toE (p_arg (p_cons (x := enc p142.a) rfl p_nil) (k_list _))) (p_cons (x := enc p142.c) (p_toE (p_arg (p_cons (x := enc p142.c) rfl p_nil) (k_list _))) p_nil)) rfl)) fun handed144 => (q_put (i := 3) [.v (.d (enc script139)), .v (.d (enc draws141)), .v (.d (enc count143)), .v (.d (enc handed144)), .no, .no, .no, .no, .no, .v (.d (enc p142.a)), .v (.d (enc p142.b)), .v (.d (enc p142.c)), .no] rfl rfl (q_seq (q_set (c_mk (c_cons (c_ok handed144.a (p_bin (x := enc handed144) (y := enc (0 : Int)) rfl rfl rfl) (c_cons (c_ok p142.b rfl (c_cons (c_ok handed144.b (p_bin (x := enc handed144) (y := enc (1 : Int)) rfl rfl rfl) (c_nil (c_leaf (r_ride_init handed144.a p142.b handed144.b) trivial fun ride145 => (q_put (i := 4) [.v (.d (enc script139)), .v (.d (enc draws141)), .v (.d (enc count143)), .v (.d (enc handed144)), .v (.d (enc ride145)), .no, .no, .no, .no, .v (.d (enc p142.a)), .v (.d (enc p142.b)), .v (.d (enc p142.c)), .no] rfl rfl (q_seq (q_hend (i := 3) (j := 4) (xs := handed144.a) (ts := handed144.b) rfl rfl (noL_of3 (noL_tlP _) rfl (noL_tlI _)) rfl (q_seq (q_ex (c_ok (⟨(1 : Int), (1 : Int)⟩ : (T2 Int Int)) (p_tup (p_cons (x := enc (1 : Int)) rfl (p_cons (x := enc (1 : Int)) rfl p_nil)) rfl) (q_seq (q_ex (c_ok (0 : Int) rfl (q_seq (q_if (c_not (c_tst (c_arg (c_cons (c_ok (⟨ride145.ways, ride145.over, ride145.trains⟩ : (R3 (TL (T2 Int Int)) Int (TL Int))) (p_toE (p_lst (p_cons (x := enc ride145.ways) (p_un (x := enc ride145) rfl rfl) (p_cons (x := enc ride145.over) (p_un (x := enc ride145) rfl rfl) (p_cons (x := enc ride145.trains) (p_un (x := enc ride145) rfl rfl) p_nil))) rfl)) (c_cons (c_ok (⟨(TL.mk p142.a), p142.b, (TL.mk p142.c)⟩ : (R3 (TL (T2 Int Int)) Int (TL Int))) (p_toE (p_lst (p_cons (x := enc (TL.mk p142.a)) (p_arg (p_cons (x := enc p142.a) rfl p_nil) (k_tup p142.a)) (p_cons (x := enc p142.b) rfl (p_cons (x := enc (TL.mk p142.c)) (p_arg (p_cons (x := enc p142.c) rfl p_nil) (k_tup p142.c)) p_nil))) rfl)) (c_nil (c_leaf le_like trivial fun v146 => (c_tru (q_ite (fun _ => (q_ret (c_ok false rfl (s_rt false rfl)))) (fun _ => (q_end (q_seq (q_if (c_or (c_not (c_tst (c_arg (c_cons (c_mth _ (enc ride145) rfl (fun K hK => c_ok ride145 rfl hK) (c_nil (c_leaf (r_ride_first ride145) trivial fun v147 => (c_cons (c_tup (c_cons (c_arg (c_cons (c_toE (c_comp (c_okg (encs p142.c) (p_unF (x := enc p142.c) rfl (k_seq _)) (c_leaf (e := encs) (le_comp [.v (.d (enc script139)), .v (.d (enc draws141)), .v (.d (enc count143)), .no, .v (.d (enc ride145)), .no, .no, .no, .no, .v (.d (enc p142.a)), .v (.d (enc p142.b)), .v (.d (enc p142.c)), .no] rfl (fun x148 => [.v (.d (enc script139)), .v (.d (enc draws141)), .v (.d (enc count143)), .no, .v (.d (enc ride145)), .no, .no, .no, .no, .v (.d (enc p142.a)), .v (.d (enc p142.b)), .v (.d (enc p142.c)), .v (.d (enc x148))]) (fun x148 => rfl) (fun x148 => ⟨rfl⟩) (fun x148 => (le_sim (ρ := [.v (.d (enc script139)), .v (.d (enc draws141)), .v (.d (enc count143)), .no, .v (.d (enc ride145)), .no, .no, .no, .no, .v (.d (enc p142.a)), .v (.d (enc p142.b)), .v (.d (enc p142.c)), .v (.d (enc x148))]) (c_ok (⟨("held" : Str), x148, (0 : Int)⟩ : (T3 Str Int Int)) (p_tup (p_cons (x := enc ("held" : Str)) rfl (p_cons (x := enc x148) rfl (p_cons (x := enc (0 : Int)) rfl p_nil))) rfl) (e_val (⟨("held" : Str), x148, (0 : Int)⟩ : (T3 Str Int Int)) rfl))))) trivial fun v149 => (c_nil (c_ok (TL.mk v149) (k_tup v149) (c_cons (c_ok (0 : Int) rfl (c_cons (c_ok () rfl (c_nil (c_ok (⟨(TL.mk v149), (0 : Int), ()⟩ : (T3 (TL (T3 Str Int Int)) Int Unit)) (p_size rfl) (c_nil (c_leaf le_like trivial fun v150 => (c_tru (c_leaf (le_or fun _ => (le_simb (ρ := [.v (.d (enc script139)), .v (.d (enc draws141)), .v (.d (enc count143)), .no, .v (.d (enc ride145)), .no, .no, .no, .no, .v (.d (enc p142.a)), .v (.d (enc p142.b)), .v (.d (enc p142.c)), .no]) (c_not (c_tst (c_arg (c_cons (c_mth _ (enc ride145) rfl (fun K hK => c_ok ride145 rfl hK) (c_nil (c_leaf (r_ride_parts ride145) trivial fun v151 => (c_cons (c_arg (c_cons (c_ok count143 rfl (c_nil (c_leaf (r_law_parts count143) trivial fun v152 => (c_nil (c_leaf le_like trivial fun v153 => (c_tru (e_val (!v153) rfl))))))))))))))))))) trivial fun b154 => (q_ite (fun _ => (q_ret (c_ok false rfl (s_rt false rfl)))) (fun _ => (q_end (q_seq (q_set (c_bin (c_bin (c_ok draws141 rfl (c_ok (18 : Int) rfl (c_leaf (le_idx draws141 (18 : Int)) trivial fun v155 => (c_ok count143 rfl (c_leaf (le_mod v155 count143) trivial fun at156 => (q_put (i := 5) [.v (.d (enc script139)), .v (.d (enc draws141)), .v (.d (enc count143)), .no, .v (.d (enc ride145)), .v (.d (enc at156)), .no, .no, .no, .v (.d (enc p142.a)), .v (.d (enc p142.b)), .v (.d (enc p142.c)), .no] rfl rfl (q_seq (q_set (c_bin (c_arg (c_cons (c_arg (c_cons (c_ok script139 rfl (c_cons (c_ok (1 : Int) rfl (c_nil (c_leaf (r_law_cell script139 (1 : Int)) trivial fun v157 => (c_nil (c_ok v157 rfl (c_ok (1000000000000000000000000000000 : Int) (p_bin (x := enc (10 : Int)) (y := enc (30 : Int)) rfl rfl (k_pow (10 : Int) (30 : Int) (1000000000000000000000000000000 : Int) (by decide) (by decide))) (c_ok (v157 % (1000000000000000000000000000000 : Int)) (k_mod v157 (1000000000000000000000000000000 : Int) (by decide)) (q_put (i := 6) [.v (.d (enc script139)), .v (.d (enc draws141)), .v (.d (enc count143)), .no, .v (.d (enc ride145)), .v (.d (enc at156)), .v (.d (enc (v157 % (1000000000000000000000000000000 : Int)))), .no, .no, .v (.d (enc p142.a)), .v (.d (enc p142.b)), .v (.d (enc p142.c)), .no] rfl rfl (q_seq (q_for (c_okg (encs ([(⟨(0 : Int), (1 : Int)⟩ : (T2 Int Int)), (⟨(2 : Int), (1 : Int)⟩ : (T2 Int Int)), (⟨(1 : Int), ((100 : Int) + (v157 % (1000000000000000000000000000000 : Int)))⟩ : (T2 Int Int)), (⟨((0 : Int) - (v157 % (1000000000000000000000000000000 : Int))), (5 : Int)⟩ : (T2 Int Int)), (⟨(100 : Int), (100 : Int)⟩ : (T2 Int Int))] : (List (T2 Int Int)))) (p_unF (x := enc ([(⟨(0 : Int), (1 : Int)⟩ : (T2 Int Int)), (⟨(2 : Int), (1 : Int)⟩ : (T2 Int Int)), (⟨(1 : Int), ((100 : Int) + (v157 % (1000000000000000000000000000000 : Int)))⟩ : (T2 Int Int)), (⟨((0 : Int) - (v157 % (1000000000000000000000000000000 : Int))), (5 : Int)⟩ : (T2 Int Int)), (⟨(100 : Int), (100 : Int)⟩ : (T2 Int Int))] : (List (T2 Int Int)))) (p_toE (p_lst (p_cons (x := enc (⟨(0 : Int), (1 : Int)⟩ : (T2 Int Int))) (p_tup (p_cons (x := enc (0 : Int)) rfl (p_cons (x := enc (1 : Int)) rfl p_nil)) rfl) (p_cons (x := enc (⟨(2 : Int), (1 : Int)⟩ : (T2 Int Int))) (p_tup (p_cons (x := enc (2 : Int)) rfl (p_cons (x := enc (1 : Int)) rfl p_nil)) rfl) (p_cons (x := enc (⟨(1 : Int), ((100 : Int) + (v157 % (1000000000000000000000000000000 : Int)))⟩ : (T2 Int Int))) (p_tup (p_cons (x := enc (1 : Int)) rfl (p_cons (x := enc ((100 : Int) + (v157 % (1000000000000000000000000000000 : Int)))) (p_bin (x := enc (100 : Int)) (y := enc (v157 % (1000000000000000000000000000000 : Int))) rfl rfl rfl) p_nil)) rfl) (p_cons (x := enc (⟨((0 : Int) - (v157 % (1000000000000000000000000000000 : Int))), (5 : Int)⟩ : (T2 Int Int))) (p_tup (p_cons (x := enc ((0 : Int) - (v157 % (1000000000000000000000000000000 : Int)))) (p_bin (x := enc (0 : Int)) (y := enc (v157 % (1000000000000000000000000000000 : Int))) rfl rfl rfl) (p_cons (x := enc (5 : Int)) rfl p_nil)) rfl) (p_cons (x := enc (⟨(100 : Int), (100 : Int)⟩ : (T2 Int Int))) (p_tup (p_cons (x := enc (100 : Int)) rfl (p_cons (x := enc (100 : Int)) rfl p_nil)) rfl) p_nil))))) rfl)) (k_seq _)) (q_forR (I := (fun (s : Unit) (ρ : Env) => ∃ u0 : Sl, ρ = [.v (.d (enc script139)), .v (.d (enc draws141)), .v (.d (enc count143)), .no, .v (.d (enc ride145)), .v (.d (enc at156)), .v (.d (enc (v157 % (1000000000000000000000000000000 : Int)))), u0, .no, .v (.d (enc p142.a)), .v (.d (enc p142.b)), .v (.d (enc p142.c)), .no] ∧ fre u0)) (s0 := ()) ⟨.no, rfl, fre_no⟩ (by intro x164 s158 ρ h; obtain ⟨u159, rfl, w160⟩ := h; exact (q_opt [.v (.d (enc script139)), .v (.d (enc draws141)), .v (.d (enc count143)), .no, .v (.d (enc ride145)), .v (.d (enc at156)), .v (.d (enc (v157 % (1000000000000000000000000000000 : Int)))), .v (.d (enc x164)), .no, .v (.d (enc p142.a)), .v (.d (enc p142.b)), .v (.d (enc p142.c)), .no] (g_n (i := 7) (ok_fre rfl w160) rfl) (q_if (c_tst (c_arg (c_cons (c_bin (c_bin (c_ok (cutG p142.a none (some at156)) (p_sl (x := enc p142.a) rfl rfl (p_part rfl) (k_cutD _ _ _)) (c_ok ([x164] : (List (T2 Int Int))) (p_toE (p_lst (p_cons (x := enc x164) rfl p_nil) rfl)) (c_leaf (le_addD (cutG p142.a none (some at156)) ([x164] : (List (T2 Int Int))) _ _ rfl rfl) trivial fun v165 => (c_ok (cutG p142.a (some (at156 + (1 : Int))) none) (p_sl (x := enc p142.a) rfl (p_part (p_bin (x := enc at156) (y := enc (1 : Int)) rfl rfl rfl)) rfl (k_cutD _ _ _)) (c_leaf (le_addD v165 (cutG p142.a (some (at156 + (1 : Int))) none) _ _ rfl rfl) trivial fun v166 => (c_cons (c_ok p142.b rfl (c_cons (c_ok p142.c rfl (c_nil (c_leaf (r_law_made v166 p142.b p142.c) trivial fun v167 => (c_tru (q_ite (fun _ => (q_ret (c_ok false rfl (s_rtR false rfl)))) (fun _ => (q_end (s_nxR (s := ()) ⟨.v (.d (enc x164)), rfl, (fre_v _)⟩)))))))))))))))))))))))) s_rt0 (by intro s161 ρ h; obtain ⟨u162, rfl, w163⟩ := h; exact (q_seq (q_for (c_unF (c_toE (c_lst (c_cons (c_ok ([] : (List Int)) (p_toE (p_lst p_nil rfl)) (c_cons (c_bin (c_ok p142.c rfl (c_ok (cutG p142.c none (some (1 : Int))) (p_sl (x := enc p142.c) rfl rfl (p_part rfl) (k_cutD _ _ _)) (c_leaf (le_addD p142.c (cutG p142.c none (some (1 : Int))) _ _ rfl rfl) trivial fun v174 => (c_cons (c_toE (c_arg (c_cons (c_ok count143 rfl (c_nil (c_leaf (e := encs) (le_rngL count143) trivial fun v175 => (c_cons (c_bin (c_ok (cutG p142.c (some (1 : Int)) none) (p_sl (x := enc p142.c) rfl (p_part rfl) rfl (k_cutD _ _ _)) (c_ok ([(count143 + (v157 % (1000000000000000000000000000000 : Int)))] : (List Int)) (p_toE (p_lst (p_cons (x := enc (count143 + (v157 % (1000000000000000000000000000000 : Int)))) (p_bin (x := enc count143) (y := enc (v157 % (1000000000000000000000000000000 : Int))) rfl rfl rfl) p_nil) rfl)) (c_leaf (le_addD (cutG p142.c (some (1 : Int)) none) ([(count143 + (v157 % (1000000000000000000000000000000 : Int)))] : (List Int)) _ _ rfl rfl) trivial fun v176 => (c_cons (c_bin (c_ok (cutG p142.c (some (1 : Int)) none) (p_sl (x := enc p142.c) rfl (p_part rfl) rfl (k_cutD _ _ _)) (c_ok ([((-1 : Int) - (v157 % (1000000000000000000000000000000 : Int)))] : (List Int)) (p_toE (p_lst (p_cons (x := enc ((-1 : Int) - (v157 % (1000000000000000000000000000000 : Int)))) (p_bin (x := enc (-1 : Int)) (y := enc (v157 % (1000000000000000000000000000000 : Int))) (p_un (x := enc (1 : Int)) rfl rfl) rfl rfl) p_nil) rfl)) (c_leaf (le_addD (cutG p142.c (some (1 : Int)) none) ([((-1 : Int) - (v157 % (1000000000000000000000000000000 : Int)))] : (List Int)) _ _ rfl rfl) trivial fun v177 => (c_nil (c_okg (encs ([([] : (List Int)), v174, v175, v176, v177] : (List (List Int)))) (p_size rfl) (c_okl ([([] : (List Int)), v174, v175, v176, v177] : (List (List Int))) (k_seq _) (q_forR (I := (fun (s : Unit) (ρ : Env) => ∃ u0 : Sl, ρ = [.v (.d (enc script139)), .v (.d (enc draws141)), .v (.d (enc count143)), .no, .v (.d (enc ride145)), .v (.d (enc at156)), .v (.d (enc (v157 % (1000000000000000000000000000000 : Int)))), u162, u0, .v (.d (enc p142.a)), .v (.d (enc p142.b)), .v (.d (enc p142.c)), .no] ∧ fre u0)) (s0 := ()) ⟨.no, rfl, fre_no⟩ (by intro x178 s168 ρ h; obtain ⟨u169, rfl, w170⟩ := h; exact (q_opt [.v (.d (enc script139)), .v (.d (enc draws141)), .v (.d (enc count143)), .no, .v (.d (enc ride145)), .v (.d (enc at156)), .v (.d (enc (v157 % (1000000000000000000000000000000 : Int)))), u162, .v (.d (enc x178)), .v (.d (enc p142.a)), .v (.d (enc p142.b)), .v (.d (enc p142.c)), .no] (g_n (i := 8) (ok_fre rfl w170) rfl) (q_if (c_tst (c_arg (c_cons (c_ok p142.a rfl (c_cons (c_ok p142.b rfl (c_cons (c_ok x178 rfl (c_nil (c_leaf (r_law_made p142.a p142.b x178) trivial fun v179 => (c_tru (q_ite (fun _ => (q_ret (c_ok false rfl (s_rtR false rfl)))) (fun _ => (q_end (s_nxR (s := ()) ⟨.v (.d (enc x178)), rfl, (fre_v _)⟩)))))))))))))))))) s_rt0 (by intro s171 ρ h; obtain ⟨u172, rfl, w173⟩ := h; exact (q_seq (q_if (c_or (c_tst (c_arg (c_cons (c_ok p142.a rfl (c_cons (c_ok ((0 : Int) - (v157 % (1000000000000000000000000000000 : Int))) (p_bin (x := enc (0 : Int)) (y := enc (v157 % (1000000000000000000000000000000 : Int))) rfl rfl rfl) (c_cons (c_ok p142.c rfl (c_nil (c_leaf (r_law_made p142.a ((0 : Int) - (v157 % (1000000000000000000000000000000 : Int))) p142.c) trivial fun v180 => (c_tru (c_leaf (le_or fun _ => (le_simb (ρ := [.v (.d (enc script139)), .v (.d (enc draws141)), .v (.d (enc count143)), .no, .v (.d (enc ride145)), .v (.d (enc at156)), .v (.d (enc (v157 % (1000000000000000000000000000000 : Int)))), u162, u172, .v (.d (enc p142.a)), .v (.d (enc p142.b)), .v (.d (enc p142.c)), .no]) (c_or (c_tst (c_arg (c_cons (c_ok p142.a rfl (c_cons (c_ok ((21 : Int) + (v157 % (1000000000000000000000000000000 : Int))) (p_bin (x := enc (21 : Int)) (y := enc (v157 % (1000000000000000000000000000000 : Int))) rfl rfl rfl) (c_cons (c_ok p142.c rfl (c_nil (c_leaf (r_law_made p142.a ((21 : Int) + (v157 % (1000000000000000000000000000000 : Int))) p142.c) trivial fun v181 => (c_tru (c_leaf (le_or fun _ => (le_simb (ρ := [.v (.d (enc script139)), .v (.d (enc draws141)), .v (.d (enc count143)), .no, .v (.d (enc ride145)), .v (.d (enc at156)), .v (.d (enc (v157 % (1000000000000000000000000000000 : Int)))), u162, u172, .v (.d (enc p142.a)), .v (.d (enc p142.b)), .v (.d (enc p142.c)), .no]) (c_or (c_tst (c_arg (c_cons (c_ok ([(⟨(1 : Int), (1 : Int)⟩ : (T2 Int Int))] : (List (T2 Int Int))) (p_toE (p_lst (p_cons (x := enc (⟨(1 : Int), (1 : Int)⟩ : (T2 Int Int))) (p_tup (p_cons (x := enc (1 : Int)) rfl (p_cons (x := enc (1 : Int)) rfl p_nil)) rfl) p_nil) rfl)) (c_cons (c_ok (1 : Int) rfl (c_cons (c_ok ([(0 : Int)] : (List Int)) (p_toE (p_lst (p_cons (x := enc (0 : Int)) rfl p_nil) rfl)) (c_nil (c_leaf (r_law_made ([(⟨(1 : Int), (1 : Int)⟩ : (T2 Int Int))] : (List (T2 Int Int))) (1 : Int) ([(0 : Int)] : (List Int))) trivial fun v182 => (c_tru (c_leaf (le_or fun _ => (le_simb (ρ := [.v (.d (enc script139)), .v (.d (enc draws141)), .v (.d (enc count143)), .no, .v (.d (enc ride145)), .v (.d (enc at156)), .v (.d (enc (v157 % (1000000000000000000000000000000 : Int)))), u162, u172, .v (.d (enc p142.a)), .v (.d (enc p142.b)), .v (.d (enc p142.c)), .no]) (c_tst (c_arg (c_cons (c_bin (c_ok ([(⟨(1 : Int), (1 : Int)⟩ : (T2 Int Int))] : (List (T2 Int Int))) (p_toE (p_lst (p_cons (x := enc (⟨(1 : Int), (1 : Int)⟩ : (T2 Int Int))) (p_tup (p_cons (x := enc (1 : Int)) rfl (p_cons (x := enc (1 : Int)) rfl p_nil)) rfl) p_nil) rfl)) (c_ok (13 : Int) rfl (c_leaf (le_rep ([(⟨(1 : Int), (1 : Int)⟩ : (T2 Int Int))] : (List (T2 Int Int))) (13 : Int) _ rfl) trivial fun v183 => (c_cons (c_ok (1 : Int) rfl (c_cons (c_ok ([(0 : Int)] : (List Int)) (p_toE (p_lst (p_cons (x := enc (0 : Int)) rfl p_nil) rfl)) (c_nil (c_leaf (r_law_made v183 (1 : Int) ([(0 : Int)] : (List Int))) trivial fun v184 => (c_tru (e_val v184 rfl))))))))))))))))) trivial fun b185 => (e_val b185 rfl)))))))))))))))) trivial fun b186 => (e_val b186 rfl)))))))))))))))) trivial fun b187 => (q_ite (fun _ => (q_ret (c_ok false rfl (s_rt false rfl)))) (fun _ => (q_end (q_ret (c_andV (c_arg (c_cons (c_bin (c_ok ([(⟨(99 : Int), (99 : Int)⟩ : (T2 Int Int))] : (List (T2 Int Int))) (p_toE (p_lst (p_cons (x := enc (⟨(99 : Int), (99 : Int)⟩ : (T2 Int Int))) (p_tup (p_cons (x := enc (99 : Int)) rfl (p_cons (x := enc (99 : Int)) rfl p_nil)) rfl) p_nil) rfl)) (c_ok (12 : Int) rfl (c_leaf (le_rep ([(⟨(99 : Int), (99 : Int)⟩ : (T2 Int Int))] : (List (T2 Int Int))) (12 : Int) _ rfl) trivial fun v188 => (c_cons (c_ok (20 : Int) rfl (c_cons (c_toE (c_arg (c_cons (c_ok (11 : Int) rfl (c_nil (c_leaf (e := encs) (le_rngL (11 : Int)) trivial fun v189 => (c_nil (c_leaf (r_law_made v188 (20 : Int) v189) trivial fun v190 => (c_tru (c_leaf (le_andV fun _ => (le_sim (ρ := [.v (.d (enc script139)), .v (.d (enc draws141)), .v (.d (enc count143)), .no, .v (.d (enc ride145)), .v (.d (enc at156)), .v (.d (enc (v157 % (1000000000000000000000000000000 : Int)))), u162, u172, .v (.d (enc p142.a)), .v (.d (enc p142.b)), .v (.d (enc p142.c)), .no]) (c_arg (c_cons (c_ok ([(⟨(1 : Int), (99 : Int)⟩ : (T2 Int Int)), (⟨(1 : Int), (1 : Int)⟩ : (T2 Int Int))] : (List (T2 Int Int))) (p_toE (p_lst (p_cons (x := enc (⟨(1 : Int), (99 : Int)⟩ : (T2 Int Int))) (p_tup (p_cons (x := enc (1 : Int)) rfl (p_cons (x := enc (99 : Int)) rfl p_nil)) rfl) (p_cons (x := enc (⟨(1 : Int), (1 : Int)⟩ : (T2 Int Int))) (p_tup (p_cons (x := enc (1 : Int)) rfl (p_cons (x := enc (1 : Int)) rfl p_nil)) rfl) p_nil)) rfl)) (c_cons (c_ok (1 : Int) rfl (c_cons (c_ok ([(at156 % (2 : Int))] : (List Int)) (p_toE (p_lst (p_cons (x := enc (at156 % (2 : Int))) (p_bin (x := enc at156) (y := enc (2 : Int)) rfl rfl (k_mod at156 (2 : Int) (by decide))) p_nil) rfl)) (c_nil (c_leaf (r_law_made ([(⟨(1 : Int), (99 : Int)⟩ : (T2 Int Int)), (⟨(1 : Int), (1 : Int)⟩ : (T2 Int Int))] : (List (T2 Int Int))) (1 : Int) ([(at156 % (2 : Int))] : (List Int))) trivial fun v191 => (e_val v191 rfl)))))))))))) trivial fun r192 => (s_rt r192 rfl)))))))))))))))))))))))))))))))))))))))))))))))))))))))))))))))))))))))))))))))))))))))))))))))))))))))))))))))))))))))))))))))))))))))))))))))))))))))))))))))))))))))))))))))))))))))))))))))))))))))))))))))))
end Cr
/-! plain lemmas over the typed words -/
namespace Cr
open PySem L2
theorem atI_nt {α : Type} (xs : List α) (k : Nat) (h : k < xs.length) : atI xs (k : Int) = some xs[k] := by
  unfold atI ixN
  rw [if_pos (by omega), if_pos (by omega)]
  simp [h]
theorem idx_nat {α : Type} (xs : List α) (k : Nat) (h : k < xs.length) : idxT xs (k : Int) = .ok xs[k] := by
  unfold idxT; rw [atI_nt xs k h]; rfl
theorem idx_int {α : Type} (xs : List α) (i : Int) (h : 0 ≤ i ∧ i < xs.length) : ∃ (k : Nat) (hk : k < xs.length), i = k ∧ idxT xs i = .ok xs[k] := by
  obtain ⟨k, rfl⟩ : ∃ k : Nat, i = k := ⟨i.toNat, by omega⟩
  exact ⟨k, by omega, rfl, idx_nat xs k (by omega)⟩
theorem idx_last {α : Type} (xs : List α) (x : α) : idxT (xs ++ [x]) (-1) = .ok x := by
  unfold idxT atI ixN
  have hl : (xs ++ [x]).length = xs.length + 1 := by simp
  rw [if_neg (by decide), if_pos (by rw [hl]; omega), hl]
  have e : ((-1 : Int) + ((xs.length + 1 : Nat) : Int)).toNat = xs.length := by omega
  rw [Option.bind_some, e]
  simp [opt]
theorem idx_getD {α : Type} (xs : List α) (d : α) (i : Int) (h : 0 ≤ i ∧ i < xs.length) : idxT xs i = .ok (xs.getD i.toNat d) := by
  obtain ⟨k, hk, rfl, e⟩ := idx_int xs i h
  rw [e, List.getD_eq_getElem?_getD, Int.toNat_natCast, List.getElem?_eq_getElem hk]; rfl
theorem bnd_ok {α β : Type} (a : α) (f : α → Res β) : ((Res.ok a : Res α) >>= f) = f a := rfl
theorem bnd_err {α β : Type} (x : Exc) (f : α → Res β) : ((Res.err x : Res α) >>= f) = .err x := rfl
theorem onF_ret {R σ γ : Type} (r : R) (a : R → Res γ) (b : σ → Res γ) : onF (.ok (.ret r)) a b = a r := rfl
theorem onF_nxt {R σ γ : Type} (s : σ) (a : R → Res γ) (b : σ → Res γ) : onF (.ok (.nxt s)) a b = b s := rfl
theorem onF_err {R σ γ : Type} (x : Exc) (a : R → Res γ) (b : σ → Res γ) : onF (.err x) a b = .err x := rfl
theorem tryT_ok {γ : Type} (cs : List Nat) (c : Nat) (g : γ) (B : Res γ) : tryT cs c (.ok g) B = .ok g := rfl
theorem tryT_err {γ : Type} (cs : List Nat) (c : Nat) (B : Res γ) (h : c ∈ cs) : tryT cs c (.err (.own c)) B = nerr B := by
  show (if c ∈ cs then (if c = c then nerr B else .err (.own c)) else .bad) = _
  rw [if_pos h, if_pos rfl]
theorem app_ok {α : Type} (xs : List α) (x : α) (h : xs.length < 16777216) : appT xs x = .ok (xs ++ [x]) := if_pos h
theorem ext_ok {α : Type} (xs ys : List α) (h : xs.length + ys.length ≤ 16777216) : extT xs ys = .ok (xs ++ ys) := if_pos h
theorem ins0_ok {α : Type} (xs : List α) (x : α) (h : xs.length < 16777216) : insT xs 0 x = .ok (x :: xs) := by
  unfold insT
  rw [if_pos ⟨h, by decide, by decide⟩]; rfl
theorem mul_r (a b : Int) (h : -18446744073709551616 < b ∧ b < 18446744073709551616) : mulT a b = .ok (a * b) := by
  have : mulOk a b := .inl (.inr ⟨by have := h.1; omega, by have := h.2; omega⟩)
  exact if_pos this
theorem mul_l (a b : Int) (h : -18446744073709551616 < a ∧ a < 18446744073709551616) : mulT a b = .ok (a * b) := by
  have : mulOk a b := .inl (.inl ⟨by have := h.1; omega, by have := h.2; omega⟩)
  exact if_pos this
theorem mod_ok (a b : Int) (h : 0 < b) : modT a b = .ok (a % b) := if_pos h
theorem fdiv_ok (a b : Int) (h : 0 < b ∧ b < 18446744073709551616) : fdivT a b = .ok (a / b) := by
  have e : divOk a b := by
    refine ⟨h.1, ?_⟩
    have : b.natAbs < 2 ^ 64 := by omega
    have h0 : b.natAbs ≠ 0 := by omega
    have := (Nat.log2_lt h0).mpr this
    omega
  exact if_pos e
/-! ranges -/
def nis (n : Nat) : List Int := (List.range n).map fun (i : Nat) => (i : Int)
theorem nis_len (n : Nat) : (nis n).length = n := by simp [nis]
theorem nis_get (n k : Nat) (h : k < (nis n).length) : (nis n)[k] = (k : Int) := by simp [nis]
theorem nis_mem {n : Nat} {i : Int} (h : i ∈ nis n) : ∃ k : Nat, k < n ∧ i = k := by
  simp only [nis, List.mem_map, List.mem_range] at h
  obtain ⟨k, hk, rfl⟩ := h
  exact ⟨k, hk, rfl⟩
theorem rangeI_01 (n : Nat) : rangeI 0 1 n = nis n := by
  unfold rangeI nis
  congr 1; funext i; omega
theorem rng_ok (n : Int) (h : n < 4611686018427387904) (h0 : 0 ≤ n) : rngT n = .ok (nis n.toNat) := by
  unfold rngT
  have e : -(2 ^ 62) ≤ n ∧ n < 2 ^ 62 := ⟨by omega, by omega⟩
  rw [if_pos e, rangeI_01]
theorem rng_nat (n : Nat) (h : n < 4611686018427387904) : rngT (n : Int) = .ok (nis n) := by
  rw [rng_ok _ (by omega) (by omega), Int.toNat_natCast]
theorem rangeI_len (lo c : Int) (n : Nat) : (rangeI lo c n).length = n := by simp [rangeI]
theorem rangeI_get (lo c : Int) (n k : Nat) (h : k < n) : (rangeI lo c n)[k]? = some (lo + k * c) := by simp [rangeI, h]
theorem rng2_ok (lo hi : Int) (h : 0 ≤ lo ∧ lo < 4611686018427387904) (h' : 0 ≤ hi ∧ hi < 4611686018427387904) : rng2T lo hi = .ok (rangeI lo 1 (hi - lo).toNat) := by
  unfold rng2T
  have e : -(2 ^ 62) ≤ lo ∧ lo < 2 ^ 62 ∧ -(2 ^ 62) ≤ hi ∧ hi < 2 ^ 62 := ⟨by omega, by omega, by omega, by omega⟩
  rw [if_pos e]
theorem rng3_ok (lo hi : Int) (h : -4611686018427387904 ≤ lo ∧ lo < 4611686018427387904) (h' : -4611686018427387904 ≤ hi ∧ hi < 4611686018427387904) : rng3T lo hi (-1) = .ok (rangeI lo (-1) (lo - hi).toNat) := by
  unfold rng3T
  have e : (-1 : Int) = -1 ∧ -(2 ^ 62) ≤ lo ∧ lo < 2 ^ 62 ∧ -(2 ^ 62) ≤ hi ∧ hi < 2 ^ 62 := ⟨rfl, by omega, by omega, by omega, by omega⟩
  rw [if_pos e]
/-! loops -/
theorem foldT_nil {α σ : Type} (f : α → σ → Res σ) (s : σ) : foldT f [] s = .ok s := rfl
theorem foldT_cons {α σ : Type} (f : α → σ → Res σ) (x : α) (xs : List α) (s : σ) : foldT f (x :: xs) s = (f x s >>= foldT f xs) := rfl
theorem foldT_append {α σ : Type} (f : α → σ → Res σ) : ∀ (xs ys : List α) (s : σ), foldT f (xs ++ ys) s = (foldT f xs s >>= foldT f ys)
  | [], ys, s => rfl
  | x :: xs, ys, s => by
    rw [List.cons_append, foldT_cons, foldT_cons]
    cases f x s with
    | ok s' => exact foldT_append f xs ys s'
    | err x => rfl
    | bad => rfl
theorem foldT_inv {α σ : Type} (I : Nat → σ → Prop) {f : α → σ → Res σ} : ∀ (xs : List α) (k : Nat) (s : σ), I k s →
    (∀ j x s, xs[j]? = some x → I (k + j) s → ∃ s', f x s = .ok s' ∧ I (k + j + 1) s') → ∃ s', foldT f xs s = .ok s' ∧ I (k + xs.length) s'
  | [], k, s, h, _ => ⟨s, rfl, h⟩
  | x :: xs, k, s, h, st => by
    obtain ⟨s1, e1, h1⟩ := st 0 x s rfl h
    obtain ⟨s2, e2, h2⟩ := foldT_inv I xs (k + 1) s1 h1 fun j y s hy hI => by
      have e : k + 1 + j = k + (j + 1) := by omega
      rw [e] at hI ⊢
      have := st (j + 1) y s (by simpa using hy) hI
      have e : k + (j + 1) + 1 = k + (j + 1) + 1 := rfl
      exact this
    refine ⟨s2, by rw [foldT_cons, e1]; exact e2, ?_⟩
    have e : k + (x :: xs).length = k + 1 + xs.length := by simp; omega
    rw [e]; exact h2
theorem foldT_nis {σ : Type} (g : Nat → σ) {f : Int → σ → Res σ} (n : Nat) (st : ∀ k : Nat, k < n → f (k : Int) (g k) = .ok (g (k + 1))) : foldT f (nis n) (g 0) = .ok (g n) := by
  obtain ⟨s', e, h⟩ := foldT_inv (fun k s => s = g k) (f := f) (nis n) 0 (g 0) rfl fun j x s hx hs => by
    have hj : j < n := by
      have := (List.getElem?_eq_some_iff.mp hx).1
      rw [nis_len] at this; exact this
    have hx : x = (j : Int) := by
      obtain ⟨hl, e⟩ := List.getElem?_eq_some_iff.mp hx
      rw [← e, nis_get]
    subst hx
    rw [Nat.zero_add] at hs ⊢
    subst hs
    exact ⟨_, st j hj, rfl⟩
  rw [e, h, Nat.zero_add, nis_len]
theorem foldT_rng {σ : Type} (g : Nat → σ) {f : Int → σ → Res σ} (lo c : Int) (n : Nat) (st : ∀ k : Nat, k < n → f (lo + k * c) (g k) = .ok (g (k + 1))) : foldT f (rangeI lo c n) (g 0) = .ok (g n) := by
  obtain ⟨s', e, h⟩ := foldT_inv (fun k s => s = g k) (f := f) (rangeI lo c n) 0 (g 0) rfl fun j x s hx hs => by
    have hj : j < n := by
      have := (List.getElem?_eq_some_iff.mp hx).1
      rw [rangeI_len] at this; exact this
    rw [rangeI_get lo c n j hj] at hx
    cases hx
    rw [Nat.zero_add] at hs ⊢
    subst hs
    exact ⟨_, st j hj, rfl⟩
  rw [e, h, Nat.zero_add, rangeI_len]
theorem foldT_all {α σ : Type} (I : σ → Prop) {f : α → σ → Res σ} (xs : List α) (s : σ) (h : I s) (st : ∀ x ∈ xs, ∀ s, I s → ∃ s', f x s = .ok s' ∧ I s') : ∃ s', foldT f xs s = .ok s' ∧ I s' :=
  foldT_inv (fun _ => I) xs 0 s h fun _ x s hx hI => st x (List.mem_of_getElem? hx) s hI
theorem forT_all {α R : Type} {f : α → Unit → Res (Fl R Unit)} : ∀ (xs : List α), (∀ x ∈ xs, f x () = .ok (.nxt ())) → forT f xs () = .ok (.nxt ())
  | [], _ => rfl
  | x :: xs, h => by
    show onF (f x ()) (fun r => .ok (.ret r)) (forT f xs) = _
    rw [h x (List.mem_cons_self ..), onF_nxt]
    exact forT_all xs fun y hy => h y (List.mem_cons_of_mem _ hy)
theorem forT_inv {α R σ : Type} (I : Nat → σ → Prop) {f : α → σ → Res (Fl R σ)} : ∀ (xs : List α) (k : Nat) (s : σ), I k s →
    (∀ j x s, xs[j]? = some x → I (k + j) s → ∃ s', f x s = .ok (.nxt s') ∧ I (k + j + 1) s') → ∃ s', forT f xs s = .ok (.nxt s') ∧ I (k + xs.length) s'
  | [], k, s, h, _ => ⟨s, rfl, h⟩
  | x :: xs, k, s, h, st => by
    obtain ⟨s1, e1, h1⟩ := st 0 x s rfl h
    obtain ⟨s2, e2, h2⟩ := forT_inv I xs (k + 1) s1 h1 fun j y s hy hI => by
      have e : k + 1 + j = k + (j + 1) := by omega
      rw [e] at hI ⊢
      exact st (j + 1) y s (by simpa using hy) hI
    refine ⟨s2, ?_, ?_⟩
    · show onF (f x s) (fun r => .ok (.ret r)) (forT f xs) = _
      rw [e1, onF_nxt]; exact e2
    · have e : k + (x :: xs).length = k + 1 + xs.length := by simp; omega
      rw [e]; exact h2
theorem fold_bnd {α σ γ : Type} {C : Res γ → Prop} (I : Nat → σ → Prop) {f : α → σ → Res σ} {xs : List α} {s0 : σ} {k : σ → Res γ} (h0 : I 0 s0) (st : ∀ j x s, xs[j]? = some x → I j s → ∃ s', f x s = .ok s' ∧ I (j + 1) s') (hk : ∀ s, I xs.length s → C (k s)) : C (foldT f xs s0 >>= k) := by
  obtain ⟨s, e, h⟩ := foldT_inv I (f := f) xs 0 s0 h0 fun j x s hx hI => by
    rw [Nat.zero_add] at hI ⊢
    exact st j x s hx hI
  rw [e]
  rw [Nat.zero_add] at h
  exact hk s h
theorem fold_nis {σ γ : Type} {C : Res γ → Prop} (I : Nat → σ → Prop) {f : Int → σ → Res σ} {n : Nat} {s0 : σ} {k : σ → Res γ} (h0 : I 0 s0) (st : ∀ j : Nat, j < n → ∀ s, I j s → ∃ s', f (j : Int) s = .ok s' ∧ I (j + 1) s') (hk : ∀ s, I n s → C (k s)) : C (foldT f (nis n) s0 >>= k) := by
  refine fold_bnd I h0 (fun j x s hx hI => ?_) (fun s h => hk s (by rw [nis_len] at h; exact h))
  obtain ⟨hl, rfl⟩ := List.getElem?_eq_some_iff.mp hx
  rw [nis_get]
  rw [nis_len] at hl
  exact st j hl s hI
theorem fold_rng {σ γ : Type} {C : Res γ → Prop} (I : Nat → σ → Prop) {lo c : Int} {f : Int → σ → Res σ} {n : Nat} {s0 : σ} {k : σ → Res γ} (h0 : I 0 s0) (st : ∀ j : Nat, j < n → ∀ s, I j s → ∃ s', f (lo + j * c) s = .ok s' ∧ I (j + 1) s') (hk : ∀ s, I n s → C (k s)) : C (foldT f (rangeI lo c n) s0 >>= k) := by
  refine fold_bnd I h0 (fun j x s hx hI => ?_) (fun s h => hk s (by rw [rangeI_len] at h; exact h))
  have hl : j < n := by
    have := (List.getElem?_eq_some_iff.mp hx).1
    rw [rangeI_len] at this; exact this
  rw [rangeI_get lo c n j hl] at hx
  cases hx
  exact st j hl s hI
theorem for_bnd {α R γ : Type} {C : Res γ → Prop} {f : α → Unit → Res (Fl R Unit)} {xs : List α} {a : R → Res γ} {k : Unit → Res γ} (st : ∀ x ∈ xs, f x () = .ok (.nxt ())) (hk : C (k ())) : C (onF (forT f xs ()) a k) := by
  rw [forT_all xs st, onF_nxt]; exact hk
theorem for_nis {R γ : Type} {C : Res γ → Prop} {f : Int → Unit → Res (Fl R Unit)} {n : Nat} {a : R → Res γ} {k : Unit → Res γ} (st : ∀ j : Nat, j < n → f (j : Int) () = .ok (.nxt ())) (hk : C (k ())) : C (onF (forT f (nis n) ()) a k) :=
  for_bnd (fun x hx => by obtain ⟨j, hj, rfl⟩ := nis_mem hx; exact st j hj) hk
theorem forS_bnd {α R σ γ : Type} {C : Res γ → Prop} (I : Nat → σ → Prop) {f : α → σ → Res (Fl R σ)} {xs : List α} {s0 : σ} {a : R → Res γ} {k : σ → Res γ} (h0 : I 0 s0) (st : ∀ j x s, xs[j]? = some x → I j s → ∃ s', f x s = .ok (.nxt s') ∧ I (j + 1) s') (hk : ∀ s, I xs.length s → C (k s)) : C (onF (forT f xs s0) a k) := by
  obtain ⟨s, e, h⟩ := forT_inv I (f := f) xs 0 s0 h0 fun j x s hx hI => by
    rw [Nat.zero_add] at hI ⊢
    exact st j x s hx hI
  rw [e]
  rw [Nat.zero_add] at h
  exact hk s h
/-! comprehensions -/
theorem comp_id {α : Type} (xs : List α) (h : xs.length ≤ 16777216) : compS (fun _ => .ok true) (fun x => Res.ok x) xs = .ok xs := by
  rw [compS_map (fun x => x) xs h, List.map_id']
theorem comp_nis {β : Type} {f : Int → Res β} (F : Nat → β) (n : Nat) (h : n ≤ 16777216) (hf : ∀ k : Nat, k < n → f (k : Int) = .ok (F k)) : compS (fun _ => .ok true) f (nis n) = .ok ((List.range n).map F) := by
  rw [compS_allm (fun i => F i.toNat) (nis n) (by rw [nis_len]; exact h) fun x hx => by
    obtain ⟨k, hk, rfl⟩ := nis_mem hx
    rw [hf k hk, Int.toNat_natCast]]
  congr 1
  unfold nis
  rw [List.map_map]
  congr 1
theorem if_ok {α : Type} (c : Bool) (a b : α) : (if c = true then Res.ok a else Res.ok b) = .ok (if c = true then a else b) := by cases c <;> rfl
end Cr
namespace Cr
open PySem L2
theorem stp {α γ : Type} {r : Res α} {a : α} {k : α → Res γ} {y : Res γ} (h : r = .ok a) (h2 : k a = y) : (r >>= k) = y := by rw [h]; exact h2
end Cr
/-! cells and draws -/
namespace Cr
open PySem L2
def isNum (n : Nat) (xs : List Int) : Prop := xs.length = n ∧ ∀ x ∈ xs, 0 ≤ x ∧ x < 4096
theorem num_rng {n : Nat} {xs : List Int} (h : isNum n xs) (k : Nat) : 0 ≤ xs.getD k 0 ∧ xs.getD k 0 < 4096 := by
  rw [List.getD_eq_getElem?_getD]
  cases q : xs[k]? with
  | none => exact ⟨Int.le_refl 0, by decide⟩
  | some x => exact h.2 x (List.mem_of_getElem? q)
theorem num_idx {n : Nat} {xs : List Int} (h : isNum n xs) (i : Int) (hi : 0 ≤ i ∧ i < n) : idxT xs i = .ok (xs.getD i.toNat 0) := idx_getD xs 0 i (by rw [h.1]; exact hi)
theorem cell_ok (ns : List Int) (k : Nat) : ∃ c : Int, 0 ≤ c ∧ t_law_cell ⟨ns⟩ (k : Int) = .ok c := by
  unfold t_law_cell
  by_cases h : k < ns.length
  · refine ⟨if ns[k] < 0 then -ns[k] else ns[k], by split <;> omega, ?_⟩
    have hd : decide ((k : Int) < ((ns.length : Nat) : Int)) = true := decide_eq_true (by omega)
    rw [if_pos hd, idx_nat ns k h, bnd_ok]
  · have hd : ¬ (decide ((k : Int) < ((ns.length : Nat) : Int)) = true) := by
      rw [decide_eq_true_eq]; omega
    exact ⟨0, by omega, if_neg hd⟩
theorem draws_ok (c : Int) (n : Nat) (hn : n < 1000) : ∃ xs : List Int, isNum n xs ∧ t_law_draws c (n : Int) = .ok xs := by
  unfold t_law_draws
  rw [rng_nat n (by omega), bnd_ok]
  refine fold_nis (C := fun r => ∃ xs : List Int, isNum n xs ∧ r = .ok xs) (fun k (s : List Int × Int) => isNum k s.1) ⟨rfl, fun x h => by cases h⟩ (fun j hj s hI => ?_) (fun s h => ⟨s.1, h, rfl⟩)
  have step : ∀ y : Int, 0 ≤ y ∧ y < 4096 → isNum (j + 1) (s.1 ++ [y]) := fun y hy => ⟨by simp [hI.1], fun z hz => by
    rcases List.mem_append.mp hz with h | h
    · exact hI.2 z h
    · rw [List.mem_singleton.mp h]; exact hy⟩
  have hl : s.1.length < 16777216 := by rw [hI.1]; omega
  by_cases hc : (decide ((1000000000000000000 : Int) ≤ c) && decide (0 < s.2)) = true
  · refine ⟨(s.1 ++ [s.2 % 4096], s.2 / 4096), ?_, step _ (by omega)⟩
    rw [if_pos hc, app_ok _ _ hl]; rfl
  · rw [if_neg hc]
    simp only [letT]
    rw [mul_r _ _ (by omega), bnd_ok, mul_r _ _ (by omega), bnd_ok, app_ok _ _ hl]
    exact ⟨_, rfl, step _ (by omega)⟩
end Cr
/-! drawn rides -/
namespace Cr
open PySem L2
structure RideP (n : Nat) (ways : List (T2 Int Int)) (ov : Int) (trs : List Int) : Prop where
  nb : 2 ≤ n ∧ n ≤ 9
  wl : ways.length = n
  w : ∀ w ∈ ways, 1 ≤ w.a ∧ w.a ≤ w.b ∧ w.b ≤ 5
  ov : 1 ≤ ov ∧ ov ≤ 3
  tl : 1 ≤ trs.length ∧ trs.length < n
  nd : trs.Nodup
  tr : ∀ b ∈ trs, 0 ≤ b ∧ b < n
theorem pigeon : ∀ (n : Nat) (ts : List Int), (∀ r : Nat, r < n → (r : Int) ∈ ts) → n ≤ ts.length
  | 0, _, _ => Nat.zero_le _
  | n + 1, ts, h => by
    have h1 : (n : Int) ∈ ts := h n (by omega)
    have ih := pigeon n (ts.erase (n : Int)) fun r hr => (List.mem_erase_of_ne (by omega)).mpr (h r (by omega))
    have h2 := List.length_erase_of_mem h1
    have h3 : 0 < ts.length := List.length_pos_of_mem h1
    omega
theorem turn_all (n : Nat) (hn : 0 < n) (b : Int) (ts : List Int) (h : ∀ i : Nat, i < n → (b + (i : Int)) % (n : Int) ∈ ts) : n ≤ ts.length := by
  refine pigeon n ts fun r hr => ?_
  have h1 := Int.emod_nonneg ((r : Int) - b) (b := (n : Int)) (by omega)
  have h2 := Int.emod_lt_of_pos ((r : Int) - b) (b := (n : Int)) (by omega)
  obtain ⟨i, hi⟩ : ∃ i : Nat, ((r : Int) - b) % (n : Int) = i := ⟨_, (Int.toNat_of_nonneg h1).symm⟩
  have h3 := h i (by omega)
  have e : (b + (i : Int)) % (n : Int) = (r : Int) := by
    rw [← hi, Int.add_emod, Int.emod_emod, ← Int.add_emod]
    have : b + ((r : Int) - b) = (r : Int) := by omega
    rw [this]
    exact Int.emod_eq_of_lt (by omega) (by omega)
  rw [e] at h3
  exact h3
/-- the next free block -/
theorem free_ok (n : Nat) (hn : 0 < n) (b : Int) (hb : 0 ≤ b ∧ b < n) (ts : List Int) (hl : ts.length < n) (f : Int → Int → Res Int) (hf : ∀ x s, f x s = if (decide (s ∈ ts)) = true then ((modT (s + (1 : Int)) (n : Int)) >>= fun block184 => (.ok block184)) else (.ok s)) :
    ∃ s, foldT f (nis n) b = .ok s ∧ 0 ≤ s ∧ s < n ∧ s ∉ ts := by
  obtain ⟨s, e, h⟩ := foldT_inv (fun (j : Nat) (s : Int) => 0 ≤ s ∧ s < n ∧ (s ∈ ts → s = (b + (j : Int)) % (n : Int) ∧ ∀ i : Nat, i < j → (b + (i : Int)) % (n : Int) ∈ ts)) (nis n) 0 b ⟨hb.1, hb.2, fun _ => ⟨by rw [Int.emod_eq_of_lt (by omega) (by omega)]; omega, fun i hi => by omega⟩⟩ (f := f) (fun j x s _ hI => by
    rw [Nat.zero_add] at hI ⊢
    rw [hf]
    by_cases q : s ∈ ts
    · rw [if_pos (decide_eq_true q), mod_ok _ _ (by omega), bnd_ok]
      obtain ⟨h1, h2, h3⟩ := hI
      obtain ⟨h4, h5⟩ := h3 q
      refine ⟨_, rfl, Int.emod_nonneg _ (by omega), Int.emod_lt_of_pos _ (by omega), fun _ => ⟨?_, fun i hi => ?_⟩⟩
      · rw [h4, Int.emod_add_emod]
        congr 1
        omega
      · by_cases hij : i < j
        · exact h5 i hij
        · have : i = j := by omega
          rw [this, ← h4]; exact q
    · rw [if_neg (by rw [decide_eq_true_eq]; exact q)]
      exact ⟨s, rfl, hI.1, hI.2.1, fun z => absurd z q⟩)
  rw [nis_len, Nat.zero_add] at h
  refine ⟨s, e, h.1, h.2.1, fun z => ?_⟩
  have := turn_all n hn b ts (h.2.2 z).2
  omega
theorem ride_drawn {N : Nat} {xs : List Int} (hx : isNum N xs) (hN : 18 ≤ N) (most : Int) (hm : 2 ≤ most ∧ most ≤ 9) : ∃ n ways ov trs, RideP n ways ov trs ∧ (n : Int) ≤ most ∧ t_law_ride xs most = .ok ⟨ways, ov, trs⟩ := by
  have hi : ∀ i : Int, 0 ≤ i ∧ i < 18 → idxT xs i = .ok (xs.getD i.toNat 0) := fun i h => num_idx hx i (by omega)
  have h0 := Int.emod_nonneg (xs.getD (0 : Int).toNat 0) (b := most - 1) (by omega)
  have h1 := Int.emod_lt_of_pos (xs.getD (0 : Int).toNat 0) (b := most - 1) (by omega)
  obtain ⟨n, hn⟩ : ∃ n : Nat, 2 + xs.getD (0 : Int).toNat 0 % (most - 1) = n := ⟨_, (Int.toNat_of_nonneg (by omega)).symm⟩
  have q9 := num_rng hx (9 : Int).toNat
  have q16 := num_rng hx (16 : Int).toNat
  have em : max (1 : Int) ((n : Int) - 1) = n - 1 := by omega
  have h2 := Int.emod_nonneg (xs.getD (9 : Int).toNat 0) (b := (n : Int) - 1) (by omega)
  have h3 := Int.emod_lt_of_pos (xs.getD (9 : Int).toNat 0) (b := (n : Int) - 1) (by omega)
  obtain ⟨m, hm2⟩ : ∃ m : Nat, 1 + xs.getD (9 : Int).toNat 0 % ((n : Int) - 1) = m := ⟨_, (Int.toNat_of_nonneg (by omega)).symm⟩
  unfold t_law_ride
  rw [hi 0 (by omega), bnd_ok, mod_ok _ _ (by omega), bnd_ok, hn, rng_nat n (by omega), bnd_ok]
  refine fold_nis (C := fun r => ∃ n' ways ov trs, RideP n' ways ov trs ∧ (n' : Int) ≤ most ∧ r = Res.ok (⟨ways, ov, trs⟩ : R3 (List (T2 Int Int)) Int (List Int))) (fun k (s : List (T2 Int Int)) => s.length = k ∧ ∀ w ∈ s, 1 ≤ w.a ∧ w.a ≤ w.b ∧ w.b ≤ 5) ⟨rfl, fun w h => by cases h⟩ (fun j hj s hI => ?_) (fun ways hW => ?_)
  · have qj := num_rng hx (1 + (j : Int)).toNat
    rw [hi (1 + (j : Int)) (by omega), bnd_ok, bnd_ok, app_ok _ _ (by rw [hI.1]; omega), bnd_ok]
    refine ⟨_, rfl, by simp [hI.1], fun w hw => ?_⟩
    rcases List.mem_append.mp hw with h | h
    · exact hI.2 w h
    · rw [List.mem_singleton.mp h]
      simp only []
      omega
  · rw [hi 9 (by omega), bnd_ok, em, mod_ok _ _ (by omega), bnd_ok, hm2, rng_nat m (by omega), bnd_ok]
    refine fold_nis (C := fun r => ∃ n' ways ov trs, RideP n' ways ov trs ∧ (n' : Int) ≤ most ∧ r = Res.ok (⟨ways, ov, trs⟩ : R3 (List (T2 Int Int)) Int (List Int))) (fun k (s : List Int) => s.length = k ∧ s.Nodup ∧ ∀ b ∈ s, 0 ≤ b ∧ b < n) ⟨rfl, List.nodup_nil, fun w h => by cases h⟩ (fun j hj s hI => ?_) (fun trs hT => ?_)
    · have hj2 := Int.emod_nonneg (xs.getD (10 + (j : Int)).toNat 0) (b := (n : Int)) (by omega)
      have hj3 := Int.emod_lt_of_pos (xs.getD (10 + (j : Int)).toNat 0) (b := (n : Int)) (by omega)
      rw [hi (10 + (j : Int)) (by omega), bnd_ok, mod_ok _ _ (by omega), bnd_ok, bnd_ok]
      obtain ⟨b, eb, b1, b2, b3⟩ := free_ok n (by omega) (xs.getD (10 + (j : Int)).toNat 0 % (n : Int)) ⟨hj2, hj3⟩ s (by rw [hI.1]; omega) _ (fun _ _ => rfl)
      rw [eb, bnd_ok, app_ok _ _ (by rw [hI.1]; omega), bnd_ok]
      refine ⟨_, rfl, by simp [hI.1], ?_, fun y hy => ?_⟩
      · rw [List.nodup_append]
        exact ⟨hI.2.1, by simp, fun a ha c hc => by
          rw [List.mem_singleton.mp hc]
          exact fun z => b3 (z ▸ ha)⟩
      · rcases List.mem_append.mp hy with h | h
        · exact hI.2.2 y h
        · rw [List.mem_singleton.mp h]; exact ⟨b1, b2⟩
    · rw [hi 16 (by omega), bnd_ok]
      exact ⟨n, ways, _, trs, ⟨by omega, hW.1, hW.2, by omega, by rw [hT.1]; omega, hT.2.1, hT.2.2⟩, by omega, rfl⟩
end Cr
/-! parts, faults: what they are -/
namespace Cr
open PySem L2
abbrev Pt := T3 Str Int Int
abbrev Fa := T2 Pt Int
theorem fold_cat {α β : Type} {f : α → List β → Res (List β)} (G : α → List β) (B : Nat) : ∀ (xs : List α) (s0 : List β), s0.length + (xs.flatMap G).length ≤ B → (∀ x ∈ xs, ∀ s : List β, s.length + (G x).length ≤ B → f x s = .ok (s ++ G x)) → foldT f xs s0 = .ok (s0 ++ xs.flatMap G)
  | [], s0, _, _ => by rw [foldT_nil, List.flatMap_nil, List.append_nil]
  | x :: xs, s0, hl, h => by
    rw [List.flatMap_cons, List.length_append] at hl
    rw [foldT_cons, h x (List.mem_cons_self ..) s0 (by omega), bnd_ok, fold_cat G B xs (s0 ++ G x) (by rw [List.length_append]; omega) fun y hy => h y (List.mem_cons_of_mem _ hy), List.flatMap_cons, List.append_assoc]
theorem flat2_len {α β : Type} (a b : α → β) : ∀ xs : List α, (xs.flatMap fun x => [a x, b x]).length = 2 * xs.length
  | [] => rfl
  | x :: xs => by
    rw [List.flatMap_cons, List.length_append, flat2_len a b xs]
    show 2 + 2 * xs.length = 2 * (xs.length + 1)
    omega
structure FtOk (n : Nat) (f : Fa) : Prop where
  k : f.a.a = ("sensor" : Str) ∨ f.a.a = ("present" : Str) ∨ f.a.a = ("brake" : Str)
  b : 0 ≤ f.a.b ∧ f.a.b < n
  c : f.a.c = 0 ∨ f.a.c = 1
  v : f.b = 0 ∨ f.b = 1
end Cr
/-! parts and faults of a ride -/
namespace Cr
open PySem L2
def two (k : Str) (n : Nat) : List Pt := (nis n).flatMap fun b => [⟨k, b, 0⟩, ⟨k, b, 1⟩]
theorem two_len (k : Str) (n : Nat) : (two k n).length = 2 * n := by unfold two; rw [flat2_len, nis_len]
theorem two_mem {k : Str} {n : Nat} {p : Pt} (h : p ∈ two k n) : p.a = k ∧ 0 ≤ p.b ∧ p.b < n ∧ (p.c = 0 ∨ p.c = 1) := by
  obtain ⟨b, hb, h⟩ := List.mem_flatMap.mp h
  obtain ⟨j, hj, rfl⟩ := nis_mem hb
  simp at h
  rcases h with rfl | rfl <;> exact ⟨rfl, by simp only []; omega, by simp only []; omega, by simp⟩
theorem two_ok (k : Str) (n : Nat) (hn : n ≤ 100) (s0 : List Pt) (hs : s0.length ≤ 1000) (f : Int → List Pt → Res (List Pt)) (hf : ∀ x s, f x s = (extT s [⟨k, x, 0⟩, ⟨k, x, 1⟩] >>= fun z => .ok z)) : foldT f (nis n) s0 = .ok (s0 ++ two k n) := by
  have e := two_len k n
  unfold two at e ⊢
  refine fold_cat _ 16777216 (nis n) s0 (by rw [e]; omega) fun x _ s h => ?_
  rw [hf, ext_ok _ _ h, bnd_ok]
def partsP (n : Nat) : List Pt := two "sensor" n ++ [⟨"present", 0, 0⟩, ⟨"present", 0, 1⟩] ++ two "brake" n
theorem parts_len (n : Nat) : (partsP n).length = 4 * n + 2 := by
  unfold partsP
  rw [List.length_append, List.length_append, two_len, two_len]
  show 2 * n + 2 + 2 * n = _
  omega
theorem parts_mem {n : Nat} (hn : 0 < n) {p : Pt} (h : p ∈ partsP n) : (p.a = ("sensor" : Str) ∨ p.a = ("present" : Str) ∨ p.a = ("brake" : Str)) ∧ 0 ≤ p.b ∧ p.b < n ∧ (p.c = 0 ∨ p.c = 1) := by
  unfold partsP at h
  rcases List.mem_append.mp h with h | h
  · rcases List.mem_append.mp h with h | h
    · have := two_mem h; exact ⟨.inl this.1, this.2⟩
    · simp at h
      rcases h with rfl | rfl
      · exact ⟨.inr (.inl rfl), Int.le_refl 0, by simp only []; omega, .inl rfl⟩
      · exact ⟨.inr (.inl rfl), Int.le_refl 0, by simp only []; omega, .inr rfl⟩
  · have := two_mem h; exact ⟨.inr (.inr this.1), this.2⟩
theorem lawparts_ok (n : Nat) (hn : n ≤ 100) : t_law_parts (n : Int) = .ok (partsP n) := by
  unfold t_law_parts
  have e := two_len "sensor" n
  show (rngT (n : Int) >>= _) = _
  rw [rng_nat n (by omega), bnd_ok, two_ok "sensor" n hn [] (by decide) _ (fun _ _ => rfl), bnd_ok, List.nil_append, ext_ok _ _ (by rw [e]; show 2 * n + 2 ≤ _; omega), bnd_ok, bnd_ok, two_ok "brake" n hn _ (by rw [List.length_append, e]; show 2 * n + 2 ≤ _; omega) _ (fun _ _ => rfl)]
  rfl
theorem parts_ok (r : C22) (n : Nat) (hn : n ≤ 100) (hw : r.ways.l.length = n) : t_ride_parts r = .ok (partsP n) := by
  have e := two_len "sensor" n
  have e2 := two_len "brake" n
  unfold t_ride_parts t_ride_sensors t_ride_calipers
  rw [hw, rng_nat n (by omega), bnd_ok, two_ok "sensor" n hn [] (by decide) _ (fun _ _ => rfl), bnd_ok, List.nil_append, ext_ok _ _ (by rw [e]; show 2 * n + 2 ≤ _; omega), bnd_ok, bnd_ok, bnd_ok, two_ok "brake" n hn [] (by decide) _ (fun _ _ => rfl), bnd_ok, bnd_ok, List.nil_append, ext_ok _ _ (by rw [List.length_append, e, e2]; show 2 * n + 2 + _ ≤ _; omega), bnd_ok]
  rfl
def everyP (n : Nat) : List Fa := (partsP n).flatMap fun p => [⟨p, 0⟩, ⟨p, 1⟩]
theorem every_len (n : Nat) : (everyP n).length = 8 * n + 4 := by unfold everyP; rw [flat2_len, parts_len]; omega
theorem every_ok (n : Nat) (hn : n ≤ 100) (f : Pt → List Fa → Res (List Fa)) (hf : ∀ x s, f x s = (extT s [⟨x, 0⟩, ⟨x, 1⟩] >>= fun z => .ok z)) : foldT f (partsP n) [] = .ok (everyP n) := by
  have e := every_len n
  unfold everyP at e ⊢
  refine fold_cat _ 16777216 (partsP n) [] (by rw [e]; show 0 + _ ≤ _; omega) fun x _ s h => ?_
  rw [hf, ext_ok _ _ h, bnd_ok]
theorem every_mem {n : Nat} (hn : 0 < n) {f : Fa} (h : f ∈ everyP n) : FtOk n f := by
  obtain ⟨p, hp, h⟩ := List.mem_flatMap.mp h
  have hp := parts_mem hn hp
  simp at h
  rcases h with rfl | rfl
  · exact ⟨hp.1, ⟨hp.2.1, hp.2.2.1⟩, hp.2.2.2, .inl rfl⟩
  · exact ⟨hp.1, ⟨hp.2.1, hp.2.2.1⟩, hp.2.2.2, .inr rfl⟩
end Cr
/-! _law_like of the same data -/
namespace Cr
open PySem L2
theorem atI_nat {α : Type} (xs : List α) (k : Nat) (h : k < xs.length) : atI xs (k : Int) = some xs[k] := atI_nt xs k h
/-! data of which both are alike -/
mutual
def plainD : Nat → D → Prop
  | _, .non => True
  | _, .bl _ => True
  | _, .int _ => True
  | _, .str _ => True
  | n + 1, .tup xs => xs.length ≤ 16777216 ∧ plainL n xs
  | n + 1, .lst xs => xs.length ≤ 16777216 ∧ plainL n xs
  | _, _ => False
def plainL : Nat → List D → Prop
  | _, [] => True
  | n, x :: xs => plainD n x ∧ plainL n xs
end
theorem plainL_get : ∀ {n : Nat} {xs : List D} {x : D}, plainL n xs → x ∈ xs → plainD n x
  | n, [], x, _, h => by cases h
  | n, y :: ys, x, hp, h => by
    unfold plainL at hp
    rcases List.mem_cons.mp h with rfl | h
    · exact hp.1
    · exact plainL_get hp.2 h
theorem like_seq (m : List D → Res D) (x : D) (xs : List D) (hx : x = .lst xs ∨ x = .tup xs) (hl : xs.length ≤ 16777216) (h : ∀ x ∈ xs, m [x, x] = .ok (.bl true)) : runD 3 (b_law_like m) [x, x] = .ok (.bl true) := by
  have hz : sizeLine = 16777216 := rfl
  have ex : ∀ (j : Nat) (h : j < xs.length), idxD x (.int j) = .ok xs[j] := fun j h => by
    rcases hx with rfl | rfl
    · rw [idxD_lst, atI_nat xs j h]; rfl
    · rw [idxD_tup, atI_nat xs j h]; rfl
  have el : lenD [x] = .ok (.int xs.length) := by rcases hx with rfl | rfl <;> rfl
  have ec : mComp [2] (mArg rng1 (mCons (mArg lenD (mCons (mVar 1) mNil)) mNil)) (gN 2) mYes (mArg m (mCons (mBin idxD (mVar 0) (mVar 2)) (mCons (mBin idxD (mVar 1) (mVar 2)) mNil))) (startE 3 [x, x]) = .ok ((rangeD 0 1 xs.length).map fun _ => .bl true) := by
    refine comp_map (xs := rangeD 0 1 xs.length) (fun _ => .bl true) ?_ ?_ fun d hd => ?_
    · simp -implicitDefEqProofs only [mEnd, mSet, mSetO, mRet, mEx, mIfS_B, mTst, mBin, mUn, mC, mVar, mVarB, mArg, mCons, mNil, toE, mLst, mTup, bindF_ok, put, okS_s, okS_v, okS_no, bind_ok, tru_bl, mAnd_B, mOr_B, andB_ok, andB_f, andB_t, orB_ok, orB_f, orB_t, andVB_ok, andVB_f, andVB_t, orVB_ok, orVB_f, orVB_t, mNot, mAndV_B, mOrV_B, mNotV, mIf_B, mChain_B, mSeq_B, seqF_nx, seqF_rt, seqF_er, seqF_if, bind_if, bindF_if, runF_rt, runF_nx, runF_er, runF_if, runIF_nx, runIF_er, runIF_if, mRaise, startE, startI, List.map_cons, List.map_nil, List.cons_append, List.nil_append, List.length_cons, List.length_nil, Nat.reduceAdd, Nat.reduceSub, List.replicate_zero, List.replicate_succ, List.append_nil, gN, gSc, gS0, gQ, gT, gL, mPart, intO, mNo, List.getElem?_cons_zero, List.getElem?_cons_succ, List.set_cons_zero, List.set_cons_succ, addD_i, subD_i, negD_i, ltD_i, leD_i, gtD_i, geD_i, eqD_i, neD_i, eqD_b, neD_b, eqD_s, neD_s, absD_i, intD_i, lenD_lst, lenD_tup, lenD_scr, isNonD, notNonD, isiD, reduceIte, bindF_err', bind_err, mAsg, if_true, mFrz, frzE, appG_ok, mLm, if_pos, ite_true, max2D, min2D, decide_true, decide_false, Bool.not_true, Bool.not_false, Bool.false_eq_true, Bool.true_and, Bool.and_true, Bool.false_and, Bool.and_false, Bool.true_or, Bool.or_true, Bool.false_or, Bool.or_false, true_and, and_true, Bool.and_eq_false_iff, gt_iff_lt, ge_iff_le, ite_false, if_false, decide_eq_true_eq, Bool.not_eq_true', Bool.and_eq_true, Bool.or_eq_true, decide_eq_false_iff_not, Int.reduceToNat, mFor_B, forL_nil, forL_c, optF_some, optR_some, compL_nil, compL_c, nerr_ok, mComp_B, mYes, allD_l, anyD_l, bools_nil, bools_c, Option.map_some, opt_some, List.all_cons, List.all_nil, List.any_cons, List.any_nil, id_eq, mUnF, seqOf_l, seqOf_t, addD_l, szl, Nat.reduceLeDiff, wipeE, Int.reduceLT, Int.reduceLE, Int.reduceNeg, Int.reducePow, Int.reduceAdd, Int.reduceSub, Int.reduceMul, and_self, modD_p, fdivD_p, mulD_r, mulD_l, startE, List.map_cons, List.map_nil, List.cons_append, List.nil_append, el]
      exact rng1_p _ (by omega)
    · rw [rangeD_len, hz]; exact hl
    · obtain ⟨j, hj⟩ := List.getElem?_of_mem hd
      obtain ⟨hlt, rfl⟩ := rangeD_get hj
      refine ⟨[.v (.d x), .v (.d x), .v (.d (.int j))], ?_, rfl, ?_⟩
      · simp [gN, wipeE, startE, okS]
      · simp -implicitDefEqProofs only [mEnd, mSet, mSetO, mRet, mEx, mIfS_B, mTst, mBin, mUn, mC, mVar, mVarB, mArg, mCons, mNil, toE, mLst, mTup, bindF_ok, put, okS_s, okS_v, okS_no, bind_ok, tru_bl, mAnd_B, mOr_B, andB_ok, andB_f, andB_t, orB_ok, orB_f, orB_t, andVB_ok, andVB_f, andVB_t, orVB_ok, orVB_f, orVB_t, mNot, mAndV_B, mOrV_B, mNotV, mIf_B, mChain_B, mSeq_B, seqF_nx, seqF_rt, seqF_er, seqF_if, bind_if, bindF_if, runF_rt, runF_nx, runF_er, runF_if, runIF_nx, runIF_er, runIF_if, mRaise, startE, startI, List.map_cons, List.map_nil, List.cons_append, List.nil_append, List.length_cons, List.length_nil, Nat.reduceAdd, Nat.reduceSub, List.replicate_zero, List.replicate_succ, List.append_nil, gN, gSc, gS0, gQ, gT, gL, mPart, intO, mNo, List.getElem?_cons_zero, List.getElem?_cons_succ, List.set_cons_zero, List.set_cons_succ, addD_i, subD_i, negD_i, ltD_i, leD_i, gtD_i, geD_i, eqD_i, neD_i, eqD_b, neD_b, eqD_s, neD_s, absD_i, intD_i, lenD_lst, lenD_tup, lenD_scr, isNonD, notNonD, isiD, reduceIte, bindF_err', bind_err, mAsg, if_true, mFrz, frzE, appG_ok, mLm, if_pos, ite_true, max2D, min2D, decide_true, decide_false, Bool.not_true, Bool.not_false, Bool.false_eq_true, Bool.true_and, Bool.and_true, Bool.false_and, Bool.and_false, Bool.true_or, Bool.or_true, Bool.false_or, Bool.or_false, true_and, and_true, Bool.and_eq_false_iff, gt_iff_lt, ge_iff_le, ite_false, if_false, decide_eq_true_eq, Bool.not_eq_true', Bool.and_eq_true, Bool.or_eq_true, decide_eq_false_iff_not, Int.reduceToNat, mFor_B, forL_nil, forL_c, optF_some, optR_some, compL_nil, compL_c, nerr_ok, mComp_B, mYes, allD_l, anyD_l, bools_nil, bools_c, Option.map_some, opt_some, List.all_cons, List.all_nil, List.any_cons, List.any_nil, id_eq, mUnF, seqOf_l, seqOf_t, addD_l, szl, Nat.reduceLeDiff, wipeE, Int.reduceLT, Int.reduceLE, Int.reduceNeg, Int.reducePow, Int.reduceAdd, Int.reduceSub, Int.reduceMul, and_self, modD_p, fdivD_p, mulD_r, mulD_l, ex j hlt]
        exact h _ (List.getElem_mem hlt)
  have ea : allD [.lst ((rangeD 0 1 xs.length).map fun _ => .bl true)] = .ok (.bl true) := by
    rw [allD_b (fun _ => true)]
    simp
  refine runD_rt (ρ := startE 3 [x, x]) ?_
  unfold b_law_like
  rcases hx with rfl | rfl
  · rw [seq_if_f (by rfl), seq_if_f (by rfl), seq_if_f (by rfl), seq_if_f (by rfl), seq_if_f (by rfl)]
    rw [seq_if_f]
    · apply ret_ok
      simp -implicitDefEqProofs only [mArg, mCons, mNil, toE, ec, bind_ok, ea]
    · simp -implicitDefEqProofs only [mEnd, mSet, mSetO, mRet, mEx, mIfS_B, mTst, mBin, mUn, mC, mVar, mVarB, mArg, mCons, mNil, toE, mLst, mTup, bindF_ok, put, okS_s, okS_v, okS_no, bind_ok, tru_bl, mAnd_B, mOr_B, andB_ok, andB_f, andB_t, orB_ok, orB_f, orB_t, andVB_ok, andVB_f, andVB_t, orVB_ok, orVB_f, orVB_t, mNot, mAndV_B, mOrV_B, mNotV, mIf_B, mChain_B, mSeq_B, seqF_nx, seqF_rt, seqF_er, seqF_if, bind_if, bindF_if, runF_rt, runF_nx, runF_er, runF_if, runIF_nx, runIF_er, runIF_if, mRaise, startE, startI, List.map_cons, List.map_nil, List.cons_append, List.nil_append, List.length_cons, List.length_nil, Nat.reduceAdd, Nat.reduceSub, List.replicate_zero, List.replicate_succ, List.append_nil, gN, gSc, gS0, gQ, gT, gL, mPart, intO, mNo, List.getElem?_cons_zero, List.getElem?_cons_succ, List.set_cons_zero, List.set_cons_succ, addD_i, subD_i, negD_i, ltD_i, leD_i, gtD_i, geD_i, eqD_i, neD_i, eqD_b, neD_b, eqD_s, neD_s, absD_i, intD_i, lenD_lst, lenD_tup, lenD_scr, isNonD, notNonD, isiD, reduceIte, bindF_err', bind_err, mAsg, if_true, mFrz, frzE, appG_ok, mLm, if_pos, ite_true, max2D, min2D, decide_true, decide_false, Bool.not_true, Bool.not_false, Bool.false_eq_true, Bool.true_and, Bool.and_true, Bool.false_and, Bool.and_false, Bool.true_or, Bool.or_true, Bool.false_or, Bool.or_false, true_and, and_true, Bool.and_eq_false_iff, gt_iff_lt, ge_iff_le, ite_false, if_false, decide_eq_true_eq, Bool.not_eq_true', Bool.and_eq_true, Bool.or_eq_true, decide_eq_false_iff_not, Int.reduceToNat, mFor_B, forL_nil, forL_c, optF_some, optR_some, compL_nil, compL_c, nerr_ok, mComp_B, mYes, allD_l, anyD_l, bools_nil, bools_c, Option.map_some, opt_some, List.all_cons, List.all_nil, List.any_cons, List.any_nil, id_eq, mUnF, seqOf_l, seqOf_t, addD_l, szl, Nat.reduceLeDiff, wipeE, Int.reduceLT, Int.reduceLE, Int.reduceNeg, Int.reducePow, Int.reduceAdd, Int.reduceSub, Int.reduceMul, and_self, modD_p, fdivD_p, mulD_r, mulD_l, startE, List.map_cons, List.map_nil, List.cons_append, List.nil_append, decide_true]
  · rw [seq_if_f (by rfl), seq_if_f (by rfl), seq_if_f (by rfl), seq_if_f (by rfl), seq_if_f (by rfl)]
    rw [seq_if_f]
    · apply ret_ok
      simp -implicitDefEqProofs only [mArg, mCons, mNil, toE, ec, bind_ok, ea]
    · simp -implicitDefEqProofs only [mEnd, mSet, mSetO, mRet, mEx, mIfS_B, mTst, mBin, mUn, mC, mVar, mVarB, mArg, mCons, mNil, toE, mLst, mTup, bindF_ok, put, okS_s, okS_v, okS_no, bind_ok, tru_bl, mAnd_B, mOr_B, andB_ok, andB_f, andB_t, orB_ok, orB_f, orB_t, andVB_ok, andVB_f, andVB_t, orVB_ok, orVB_f, orVB_t, mNot, mAndV_B, mOrV_B, mNotV, mIf_B, mChain_B, mSeq_B, seqF_nx, seqF_rt, seqF_er, seqF_if, bind_if, bindF_if, runF_rt, runF_nx, runF_er, runF_if, runIF_nx, runIF_er, runIF_if, mRaise, startE, startI, List.map_cons, List.map_nil, List.cons_append, List.nil_append, List.length_cons, List.length_nil, Nat.reduceAdd, Nat.reduceSub, List.replicate_zero, List.replicate_succ, List.append_nil, gN, gSc, gS0, gQ, gT, gL, mPart, intO, mNo, List.getElem?_cons_zero, List.getElem?_cons_succ, List.set_cons_zero, List.set_cons_succ, addD_i, subD_i, negD_i, ltD_i, leD_i, gtD_i, geD_i, eqD_i, neD_i, eqD_b, neD_b, eqD_s, neD_s, absD_i, intD_i, lenD_lst, lenD_tup, lenD_scr, isNonD, notNonD, isiD, reduceIte, bindF_err', bind_err, mAsg, if_true, mFrz, frzE, appG_ok, mLm, if_pos, ite_true, max2D, min2D, decide_true, decide_false, Bool.not_true, Bool.not_false, Bool.false_eq_true, Bool.true_and, Bool.and_true, Bool.false_and, Bool.and_false, Bool.true_or, Bool.or_true, Bool.false_or, Bool.or_false, true_and, and_true, Bool.and_eq_false_iff, gt_iff_lt, ge_iff_le, ite_false, if_false, decide_eq_true_eq, Bool.not_eq_true', Bool.and_eq_true, Bool.or_eq_true, decide_eq_false_iff_not, Int.reduceToNat, mFor_B, forL_nil, forL_c, optF_some, optR_some, compL_nil, compL_c, nerr_ok, mComp_B, mYes, allD_l, anyD_l, bools_nil, bools_c, Option.map_some, opt_some, List.all_cons, List.all_nil, List.any_cons, List.any_nil, id_eq, mUnF, seqOf_l, seqOf_t, addD_l, szl, Nat.reduceLeDiff, wipeE, Int.reduceLT, Int.reduceLE, Int.reduceNeg, Int.reducePow, Int.reduceAdd, Int.reduceSub, Int.reduceMul, and_self, modD_p, fdivD_p, mulD_r, mulD_l, startE, List.map_cons, List.map_nil, List.cons_append, List.nil_append, decide_true]
theorem like_same : ∀ (n : Nat) (x : D), plainD n x → m_law_like (n + 1) [x, x] = .ok (.bl true)
  | n, .non, _ => rfl
  | n, .bl b, _ => by cases b <;> rfl
  | n, .int i, _ => by
    refine runD_rt (ρ := startE 3 [.int i, .int i]) ?_
    unfold b_law_like
    rw [seq_if_f (by rfl), seq_if_f (by rfl), seq_if_f (by rfl), seq_rt]
    rw [if_t (by rfl)]
    apply ret_ok
    simp -implicitDefEqProofs only [mEnd, mSet, mSetO, mRet, mEx, mIfS_B, mTst, mBin, mUn, mC, mVar, mVarB, mArg, mCons, mNil, toE, mLst, mTup, bindF_ok, put, okS_s, okS_v, okS_no, bind_ok, tru_bl, mAnd_B, mOr_B, andB_ok, andB_f, andB_t, orB_ok, orB_f, orB_t, andVB_ok, andVB_f, andVB_t, orVB_ok, orVB_f, orVB_t, mNot, mAndV_B, mOrV_B, mNotV, mIf_B, mChain_B, mSeq_B, seqF_nx, seqF_rt, seqF_er, seqF_if, bind_if, bindF_if, runF_rt, runF_nx, runF_er, runF_if, runIF_nx, runIF_er, runIF_if, mRaise, startE, startI, List.map_cons, List.map_nil, List.cons_append, List.nil_append, List.length_cons, List.length_nil, Nat.reduceAdd, Nat.reduceSub, List.replicate_zero, List.replicate_succ, List.append_nil, gN, gSc, gS0, gQ, gT, gL, mPart, intO, mNo, List.getElem?_cons_zero, List.getElem?_cons_succ, List.set_cons_zero, List.set_cons_succ, addD_i, subD_i, negD_i, ltD_i, leD_i, gtD_i, geD_i, eqD_i, neD_i, eqD_b, neD_b, eqD_s, neD_s, absD_i, intD_i, lenD_lst, lenD_tup, lenD_scr, isNonD, notNonD, isiD, reduceIte, bindF_err', bind_err, mAsg, if_true, mFrz, frzE, appG_ok, mLm, if_pos, ite_true, max2D, min2D, decide_true, decide_false, Bool.not_true, Bool.not_false, Bool.false_eq_true, Bool.true_and, Bool.and_true, Bool.false_and, Bool.and_false, Bool.true_or, Bool.or_true, Bool.false_or, Bool.or_false, true_and, and_true, Bool.and_eq_false_iff, gt_iff_lt, ge_iff_le, ite_false, if_false, decide_eq_true_eq, Bool.not_eq_true', Bool.and_eq_true, Bool.or_eq_true, decide_eq_false_iff_not, Int.reduceToNat, mFor_B, forL_nil, forL_c, optF_some, optR_some, compL_nil, compL_c, nerr_ok, mComp_B, mYes, allD_l, anyD_l, bools_nil, bools_c, Option.map_some, opt_some, List.all_cons, List.all_nil, List.any_cons, List.any_nil, id_eq, mUnF, seqOf_l, seqOf_t, addD_l, szl, Nat.reduceLeDiff, wipeE, Int.reduceLT, Int.reduceLE, Int.reduceNeg, Int.reducePow, Int.reduceAdd, Int.reduceSub, Int.reduceMul, and_self, modD_p, fdivD_p, mulD_r, mulD_l, startE, List.map_cons, List.map_nil, List.cons_append, List.nil_append, decide_true]
  | n, .str i, _ => by
    refine runD_rt (ρ := startE 3 [.str i, .str i]) ?_
    unfold b_law_like
    rw [seq_if_f (by rfl), seq_if_f (by rfl), seq_rt]
    rw [if_t (by rfl)]
    apply ret_ok
    simp -implicitDefEqProofs only [mEnd, mSet, mSetO, mRet, mEx, mIfS_B, mTst, mBin, mUn, mC, mVar, mVarB, mArg, mCons, mNil, toE, mLst, mTup, bindF_ok, put, okS_s, okS_v, okS_no, bind_ok, tru_bl, mAnd_B, mOr_B, andB_ok, andB_f, andB_t, orB_ok, orB_f, orB_t, andVB_ok, andVB_f, andVB_t, orVB_ok, orVB_f, orVB_t, mNot, mAndV_B, mOrV_B, mNotV, mIf_B, mChain_B, mSeq_B, seqF_nx, seqF_rt, seqF_er, seqF_if, bind_if, bindF_if, runF_rt, runF_nx, runF_er, runF_if, runIF_nx, runIF_er, runIF_if, mRaise, startE, startI, List.map_cons, List.map_nil, List.cons_append, List.nil_append, List.length_cons, List.length_nil, Nat.reduceAdd, Nat.reduceSub, List.replicate_zero, List.replicate_succ, List.append_nil, gN, gSc, gS0, gQ, gT, gL, mPart, intO, mNo, List.getElem?_cons_zero, List.getElem?_cons_succ, List.set_cons_zero, List.set_cons_succ, addD_i, subD_i, negD_i, ltD_i, leD_i, gtD_i, geD_i, eqD_i, neD_i, eqD_b, neD_b, eqD_s, neD_s, absD_i, intD_i, lenD_lst, lenD_tup, lenD_scr, isNonD, notNonD, isiD, reduceIte, bindF_err', bind_err, mAsg, if_true, mFrz, frzE, appG_ok, mLm, if_pos, ite_true, max2D, min2D, decide_true, decide_false, Bool.not_true, Bool.not_false, Bool.false_eq_true, Bool.true_and, Bool.and_true, Bool.false_and, Bool.and_false, Bool.true_or, Bool.or_true, Bool.false_or, Bool.or_false, true_and, and_true, Bool.and_eq_false_iff, gt_iff_lt, ge_iff_le, ite_false, if_false, decide_eq_true_eq, Bool.not_eq_true', Bool.and_eq_true, Bool.or_eq_true, decide_eq_false_iff_not, Int.reduceToNat, mFor_B, forL_nil, forL_c, optF_some, optR_some, compL_nil, compL_c, nerr_ok, mComp_B, mYes, allD_l, anyD_l, bools_nil, bools_c, Option.map_some, opt_some, List.all_cons, List.all_nil, List.any_cons, List.any_nil, id_eq, mUnF, seqOf_l, seqOf_t, addD_l, szl, Nat.reduceLeDiff, wipeE, Int.reduceLT, Int.reduceLE, Int.reduceNeg, Int.reducePow, Int.reduceAdd, Int.reduceSub, Int.reduceMul, and_self, modD_p, fdivD_p, mulD_r, mulD_l, startE, List.map_cons, List.map_nil, List.cons_append, List.nil_append, decide_true]
  | 0, .tup xs, h => by unfold plainD at h; exact False.elim h
  | 0, .lst xs, h => by unfold plainD at h; exact False.elim h
  | n, .obj _ _, h => by unfold plainD at h; exact False.elim h
  | n, .scr _, h => by unfold plainD at h; exact False.elim h
  | n + 1, .tup xs, h => by
    unfold plainD at h
    exact like_seq _ _ xs (.inr rfl) h.1 fun x hx => like_same n x (plainL_get h.2 hx)
  | n + 1, .lst xs, h => by
    unfold plainD at h
    exact like_seq _ _ xs (.inl rfl) h.1 fun x hx => like_same n x (plainL_get h.2 hx)
theorem like_ok (x : D) (h : plainD 7 x) : likeR (m_law_like 8 [x, x]) = .ok true := by
  rw [like_same 7 x h]; rfl
theorem plainL_all {n : Nat} : ∀ {xs : List D}, (∀ x ∈ xs, plainD n x) → plainL n xs
  | [], _ => by unfold plainL; trivial
  | x :: xs, h => by
    unfold plainL
    exact ⟨h x (List.mem_cons_self ..), plainL_all fun y hy => h y (List.mem_cons_of_mem _ hy)⟩
theorem plain_int {n : Nat} (i : Int) : plainD n (enc i) := by show plainD n (.int i); cases n <;> (unfold plainD; trivial)
theorem plain_bool {n : Nat} (i : Bool) : plainD n (enc i) := by show plainD n (.bl i); cases n <;> (unfold plainD; trivial)
theorem plain_str {n : Nat} (i : Str) : plainD n (enc i) := by show plainD n (.str i); cases n <;> (unfold plainD; trivial)
theorem plain_list {α : Type} [Enc α] {n : Nat} (xs : List α) (hl : xs.length ≤ 16777216) (h : ∀ x ∈ xs, plainD n (enc x)) : plainD (n + 1) (enc xs) := by
  show plainD (n + 1) (.lst (xs.map Enc.en))
  unfold plainD
  refine ⟨by rw [List.length_map]; exact hl, plainL_all fun x hx => ?_⟩
  obtain ⟨a, ha, rfl⟩ := List.mem_map.mp hx
  exact h a ha
theorem plain_tl {α : Type} [Enc α] {n : Nat} (xs : TL α) (hl : xs.l.length ≤ 16777216) (h : ∀ x ∈ xs.l, plainD n (enc x)) : plainD (n + 1) (enc xs) := by
  show plainD (n + 1) (.tup (xs.l.map Enc.en))
  unfold plainD
  refine ⟨by rw [List.length_map]; exact hl, plainL_all fun x hx => ?_⟩
  obtain ⟨a, ha, rfl⟩ := List.mem_map.mp hx
  exact h a ha
theorem plain_t2 {A B : Type} [Enc A] [Enc B] {n : Nat} (x : T2 A B) (ha : plainD n (enc x.a)) (hb : plainD n (enc x.b)) : plainD (n + 1) (enc x) := by
  show plainD (n + 1) (.tup [enc x.a, enc x.b])
  unfold plainD plainL plainL plainL
  exact ⟨Nat.le_of_ble_eq_true rfl, ha, hb, trivial⟩
theorem plain_t3 {A B C : Type} [Enc A] [Enc B] [Enc C] {n : Nat} (x : T3 A B C) (ha : plainD n (enc x.a)) (hb : plainD n (enc x.b)) (hc : plainD n (enc x.c)) : plainD (n + 1) (enc x) := by
  show plainD (n + 1) (.tup [enc x.a, enc x.b, enc x.c])
  unfold plainD plainL plainL plainL plainL
  exact ⟨Nat.le_of_ble_eq_true rfl, ha, hb, hc, trivial⟩
theorem plain_opt {A : Type} [Enc A] {n : Nat} (x : Option A) (h : ∀ a, x = some a → plainD n (enc a)) : plainD n (enc x) := by
  cases x with
  | none => show plainD n .non; cases n <;> (unfold plainD; trivial)
  | some a => exact h a rfl
theorem plain_ints (xs : List Int) (hl : xs.length ≤ 16777216) : plainD 7 (enc xs) := plain_list xs hl fun x _ => plain_int x
theorem like_int (a b : Int) (h : a = b) : likeR (m_law_like 8 [enc a, enc b]) = .ok true := by subst h; exact like_ok _ (plain_int a)
theorem like_bool (a b : Bool) (h : a = b) : likeR (m_law_like 8 [enc a, enc b]) = .ok true := by subst h; exact like_ok _ (plain_bool a)
end Cr
namespace Cr
open PySem L2
def rideO (ways : List (T2 Int Int)) (ov : Int) (trs : List Int) : C22 := ⟨⟨ways⟩, ov, ⟨trs⟩⟩
structure RV (ways : List (T2 Int Int)) (ov : Int) (trs : List Int) : Prop where
  n : 2 ≤ ways.length ∧ ways.length ≤ 12
  w : ∀ w ∈ ways, 1 ≤ w.a ∧ w.a ≤ w.b ∧ w.b ≤ 99
  o : 1 ≤ ov ∧ ov ≤ 20
  t : 1 ≤ trs.length ∧ trs.length < ways.length
  d : trs.Nodup
  b : ∀ b ∈ trs, 0 ≤ b ∧ b < ways.length
theorem init_form (ways : List (T2 Int Int)) (ov : Int) (trs : List Int) (h1 : ways.length ≤ 1000) (h2 : trs.length ≤ 1000) :
    (RV ways ov trs ∧ t_ride_init ways ov trs = .ok (rideO ways ov trs)) ∨ (¬ RV ways ov trs ∧ t_ride_init ways ov trs = .err (.own 4)) := by
  have el : lenSetNT trs = .ok (firstLen trs : Int) := by
    unfold lenSetNT
    rw [if_pos (by omega)]
  unfold t_ride_init
  rw [compS_map _ _ (by omega), bnd_ok, orR_ok, bnd_ok]
  by_cases c1 : (2 ≤ ways.length ∧ ways.length ≤ 12) ∧ ∀ w ∈ ways, 1 ≤ w.a ∧ w.a ≤ w.b ∧ w.b ≤ 99
  case neg =>
    refine .inr ⟨fun R => c1 ⟨R.n, R.w⟩, if_pos ?_⟩
    refine Bool.not_eq_false _ |>.mp fun e => c1 ?_
    rw [Bool.or_eq_false_iff, Bool.not_eq_false', Bool.not_eq_false', Bool.and_eq_true, decide_eq_true_eq, decide_eq_true_eq, List.all_eq_true] at e
    refine ⟨by omega, fun w hw => ?_⟩
    have := e.2 _ (List.mem_map.mpr ⟨w, hw, rfl⟩)
    simp only [id, Bool.and_eq_true, decide_eq_true_eq] at this
    omega
  rw [if_neg (by
    rw [Bool.not_eq_true, Bool.or_eq_false_iff, Bool.not_eq_false', Bool.not_eq_false', Bool.and_eq_true, decide_eq_true_eq, decide_eq_true_eq, List.all_eq_true]
    refine ⟨by omega, fun y hy => ?_⟩
    obtain ⟨w, hw, rfl⟩ := List.mem_map.mp hy
    have := c1.2 w hw
    simp only [id, Bool.and_eq_true, decide_eq_true_eq]
    omega)]
  by_cases c2 : 1 ≤ ov ∧ ov ≤ 20
  case neg =>
    refine .inr ⟨fun R => c2 R.o, if_pos ?_⟩
    refine Bool.not_eq_false _ |>.mp fun e => c2 ?_
    rw [Bool.not_eq_false', Bool.and_eq_true, decide_eq_true_eq, decide_eq_true_eq] at e
    exact e
  rw [if_neg (by
    rw [Bool.not_eq_true, Bool.not_eq_false', Bool.and_eq_true, decide_eq_true_eq, decide_eq_true_eq]
    exact c2), el, bnd_ok, orR_ok, bnd_ok]
  by_cases c3 : (1 ≤ trs.length ∧ trs.length < ways.length) ∧ trs.Nodup
  case neg =>
    refine .inr ⟨fun R => c3 ⟨R.t, R.d⟩, if_pos ?_⟩
    refine Bool.not_eq_false _ |>.mp fun e => c3 ?_
    rw [Bool.or_eq_false_iff, Bool.not_eq_false', Bool.not_eq_false', Bool.and_eq_true, decide_eq_true_eq, decide_eq_true_eq, decide_eq_true_eq] at e
    exact ⟨by omega, firstLen_nodup (by omega)⟩
  rw [if_neg (by
    rw [Bool.not_eq_true, Bool.or_eq_false_iff, Bool.not_eq_false', Bool.not_eq_false', Bool.and_eq_true, decide_eq_true_eq, decide_eq_true_eq, decide_eq_true_eq, firstLen_ok c3.2]
    exact ⟨by omega, rfl⟩), compS_map _ _ (by omega), bnd_ok]
  by_cases c4 : ∀ b ∈ trs, 0 ≤ b ∧ b < (ways.length : Int)
  case neg =>
    refine .inr ⟨fun R => c4 R.b, if_pos ?_⟩
    refine Bool.not_eq_false _ |>.mp fun e => c4 ?_
    rw [Bool.not_eq_false', List.all_eq_true] at e
    intro b hb
    have := e _ (List.mem_map.mpr ⟨b, hb, rfl⟩)
    simp only [id, Bool.and_eq_true, decide_eq_true_eq] at this
    exact this
  rw [if_neg (by
    rw [Bool.not_eq_true, Bool.not_eq_false', List.all_eq_true]
    intro y hy
    obtain ⟨b, hb, rfl⟩ := List.mem_map.mp hy
    have := c4 b hb
    simp only [id, Bool.and_eq_true, decide_eq_true_eq]
    exact this)]
  exact .inl ⟨⟨c1.1, c1.2, c2, c3.1, c3.2, c4⟩, rfl⟩
theorem made_t {ways : List (T2 Int Int)} {ov : Int} {trs : List Int} (h : RV ways ov trs) : t_law_made ways ov trs = .ok true := by
  have := h.n
  have := h.t
  unfold t_law_made
  rcases init_form ways ov trs (by omega) (by omega) with ⟨_, e⟩ | ⟨n, _⟩
  · rw [e]; rfl
  · exact absurd h n
theorem made_f {ways : List (T2 Int Int)} {ov : Int} {trs : List Int} (h : ¬ RV ways ov trs) (h1 : ways.length ≤ 1000) (h2 : trs.length ≤ 1000) : t_law_made ways ov trs = .ok false := by
  unfold t_law_made
  rcases init_form ways ov trs h1 h2 with ⟨n, _⟩ | ⟨_, e⟩
  · exact absurd n h
  · rw [e]; rfl
theorem cut_le {α : Type} (xs : List α) (lo hi : Option Int) : (cutG xs lo hi).length ≤ xs.length := by
  unfold cutG
  rw [List.length_take, List.length_drop]; omega
theorem plain_ride {n : Nat} (ways : List (T2 Int Int)) (ov : Int) (trs : List Int) (h1 : ways.length ≤ 1000) (h2 : trs.length ≤ 1000) : plainD (n + 3) (enc (⟨TL.mk ways, ov, TL.mk trs⟩ : R3 (TL (T2 Int Int)) Int (TL Int))) := by
  have hw : plainD (n + 2) (enc (TL.mk ways)) := plain_tl _ (show ways.length ≤ _ by omega) fun x _ => plain_t2 x (plain_int _) (plain_int _)
  have ht : plainD (n + 2) (enc (TL.mk trs)) := plain_tl _ (show trs.length ≤ _ by omega) fun x _ => plain_int _
  show plainD (n + 3) (.lst [enc (TL.mk ways), enc ov, enc (TL.mk trs)])
  unfold plainD
  refine ⟨by show 3 ≤ _; decide, ?_⟩
  unfold plainL
  refine ⟨hw, ?_⟩
  unfold plainL
  refine ⟨plain_int _, ?_⟩
  unfold plainL
  refine ⟨ht, ?_⟩
  unfold plainL
  trivial
theorem k17_law (ns : List Int) : t_law ⟨ns⟩ = .ok true := by
  obtain ⟨c0, hc0, e0⟩ := cell_ok ns 0
  obtain ⟨c1, hc1, e1⟩ := cell_ok ns 1
  obtain ⟨xs, hx, ed⟩ := draws_ok c0 20 (by decide)
  have e0 : t_law_cell ⟨ns⟩ (0 : Int) = .ok c0 := e0
  have e1 : t_law_cell ⟨ns⟩ (1 : Int) = .ok c1 := e1
  have ed : t_law_draws c0 (20 : Int) = .ok xs := ed
  have hi : ∀ i : Int, 0 ≤ i ∧ i < 20 → idxT xs i = .ok (xs.getD i.toNat 0) := fun i h => num_idx hx i h
  obtain ⟨n, ways, ov, trs, R, hn8, er⟩ := ride_drawn hx (by omega) 7 (by omega)
  have hnb := R.nb
  have hwl := R.wl
  have htl := R.tl
  have hov := R.ov
  have hn8 : n ≤ 7 := by omega
  have V : RV ways ov trs := ⟨by omega, fun w hw => by have := R.w w hw; omega, by omega, by omega, R.nd, fun b hb => by have := R.tr b hb; omega⟩
  have ei : t_ride_init ways ov trs = .ok (rideO ways ov trs) := by
    rcases init_form ways ov trs (by omega) (by omega) with ⟨_, e⟩ | ⟨z, _⟩
    · exact e
    · exact absurd V z
  unfold t_law
  rw [e0, bnd_ok, ed, bnd_ok, er, bnd_ok]
  simp only [letT]
  have eh : handT ways trs = .ok () := by
    have hz : sizeLine = 16777216 := rfl
    unfold handT
    rw [if_pos (by omega)]
  have ef : t_ride_first (rideO ways ov trs) = .ok ⟨⟨trs.map fun x => ⟨("held" : Str), x, (0 : Int)⟩⟩, (0 : Int), ()⟩ := by
    unfold t_ride_first
    show (compS _ _ trs >>= _) = _
    rw [compS_map _ _ (show trs.length ≤ _ by omega), bnd_ok]
  have q18 := num_rng hx (18 : Int).toNat
  have hw0 : (0 : Int) ≤ xs.getD (18 : Int).toNat 0 := by omega
  rw [ei, bnd_ok, eh, bnd_ok]
  dsimp only [rideO]
  rw [like_ok _ (plain_ride ways ov trs (by omega) (by omega)), bnd_ok, if_neg (by decide)]
  have ef2 : t_ride_first { ways := { l := ways }, over := ov, trains := { l := trs } } = _ := ef
  have ep : t_ride_parts { ways := { l := ways }, over := ov, trains := { l := trs } } = .ok (partsP n) := parts_ok _ n (by omega) hwl
  have pl := parts_len n
  have p1 : plainD 7 (enc (⟨⟨trs.map fun x => ⟨("held" : Str), x, (0 : Int)⟩⟩, (0 : Int), ()⟩ : T3 (TL (T3 Str Int Int)) Int Unit)) :=
    plain_t3 _ (plain_tl _ (by simp only [List.length_map]; omega) fun t _ => plain_t3 t (plain_str _) (plain_int _) (plain_int _)) (plain_int _) (show plainD 6 .non by unfold plainD; trivial)
  have p2 : plainD 7 (enc (partsP n)) := plain_list _ (by omega) fun t _ => plain_t3 t (plain_str _) (plain_int _) (plain_int _)
  have hm1 := Int.emod_nonneg (xs.getD (18 : Int).toNat 0) (b := (n : Int)) (by omega)
  have hm2 := Int.emod_lt_of_pos (xs.getD (18 : Int).toNat 0) (b := (n : Int)) (by omega)
  rw [ef2, bnd_ok, compS_map _ _ (show trs.length ≤ _ by omega), bnd_ok, like_ok _ p1, bnd_ok, hwl, lawparts_ok n (by omega), ep]
  simp only [bnd_ok]
  rw [like_ok _ p2]
  simp only [bnd_ok]
  rw [orR_ok, bnd_ok, if_neg (by decide), hi 18 (by omega), bnd_ok, mod_ok _ _ (by omega), bnd_ok, e1, bnd_ok]
  generalize xs.getD (18 : Int).toNat 0 % (n : Int) = at0 at hm1 hm2 ⊢
  have hg := Int.emod_nonneg c1 (b := 1000000000000000000000000000000) (by decide)
  generalize c1 % (1000000000000000000000000000000 : Int) = great at hg ⊢
  refine for_bnd (C := fun r => r = .ok true) (fun w hw => ?_) ?_
  · have l1 := cut_le ways none (some at0)
    have l2 := cut_le ways (some (at0 + 1)) none
    rw [ext_ok _ _ (show _ + 1 ≤ _ by omega), bnd_ok, ext_ok _ _ (by rw [List.length_append]; show _ + 1 + _ ≤ _; omega), bnd_ok, made_f (fun V => ?_) (by rw [List.length_append, List.length_append]; show _ + 1 + _ ≤ _; omega) (by omega), bnd_ok, if_neg (by decide)]
    have := V.w w (by simp)
    simp only [List.mem_cons, List.not_mem_nil, or_false] at hw
    rcases hw with rfl | rfl | rfl | rfl | rfl <;> (simp only [] at this; omega)
  have t1 : cutG trs none (some (1 : Int)) = trs.take 1 := by
    have h1 : HT.sIx trs.length trs.length (some (1 : Int)) = 1 := by
      have := HT.sIx_nat trs.length trs.length 1
      rw [show ((1 : Nat) : Int) = 1 from rfl] at this
      rw [this]; omega
    unfold cutG
    rw [h1]; rfl
  have l2 := cut_le trs (some (1 : Int)) none
  have l3 : (trs.take 1).length = 1 := by rw [List.length_take]; omega
  have erl : rngLT (n : Int) = .ok (rangeI 0 1 n) := by
    unfold rngLT
    rw [if_pos (by omega), Int.toNat_natCast]
  have rl : (rangeI 0 1 n).length = n := by unfold rangeI; rw [List.length_map, List.length_range]
  rw [t1, ext_ok _ _ (by omega), bnd_ok, erl, bnd_ok, ext_ok _ _ (show _ + 1 ≤ _ by omega), bnd_ok, ext_ok _ _ (show _ + 1 ≤ _ by omega), bnd_ok]
  refine for_bnd (C := fun r => r = .ok true) (fun w hw => ?_) ?_
  · have hwl2 : w.length ≤ 1000 := by
      simp only [List.mem_cons, List.not_mem_nil, or_false] at hw
      rcases hw with rfl | rfl | rfl | rfl | rfl <;> (try simp only [List.length_append, List.length_cons, List.length_nil]) <;> omega
    rw [made_f (fun V => ?_) (by omega) hwl2, bnd_ok, if_neg (by decide)]
    simp only [List.mem_cons, List.not_mem_nil, or_false] at hw
    have h1 := V.t
    have h2 := V.d
    have h3 := V.b
    rcases hw with rfl | rfl | rfl | rfl | rfl
    · exact absurd h1.1 (by decide)
    · match trs, htl with
      | [], htl => exact absurd htl.1 (by decide)
      | a :: as, _ =>
        have := (List.nodup_append.mp h2).2.2 a (by simp) a (by simp)
        exact this rfl
    · omega
    · have := h3 (n + great) (by simp)
      omega
    · have := h3 (-1 - great) (by simp)
      omega
  rw [made_f (fun V => by have := V.o; omega) (by omega) (by omega), bnd_ok, made_f (fun V => by have := V.o; omega) (by omega) (by omega), bnd_ok, made_f (fun V => absurd V.n (by decide)) (by decide) (by decide), bnd_ok]
  have e13 : repT ([(⟨(1 : Int), (1 : Int)⟩ : (T2 Int Int))] : (List (T2 Int Int))) (13 : Int) = .ok (List.replicate 13 ⟨1, 1⟩) := by kernel_rfl
  have e12 : repT ([(⟨(99 : Int), (99 : Int)⟩ : (T2 Int Int))] : (List (T2 Int Int))) (12 : Int) = .ok (List.replicate 12 ⟨99, 99⟩) := by kernel_rfl
  have e11 : rngLT (11 : Int) = .ok [0, 1, 2, 3, 4, 5, 6, 7, 8, 9, 10] := by kernel_rfl
  rw [e13, bnd_ok, made_f (fun V => absurd V.n (by decide)) (by decide) (by decide), bnd_ok]
  simp only [orR_ok, bnd_ok, e12, e11]
  rw [if_neg (by decide), made_t ⟨by decide, fun w hw => by rw [List.eq_of_mem_replicate hw]; decide, by decide, by decide, by decide, fun b hb => by
    have : ∀ b ∈ ([0, 1, 2, 3, 4, 5, 6, 7, 8, 9, 10] : List Int), 0 ≤ b ∧ b < (12 : Int) := by decide
    exact this b hb⟩, bnd_ok]
  have hm3 := Int.emod_nonneg at0 (b := 2) (by decide)
  have hm4 := Int.emod_lt_of_pos at0 (b := 2) (by decide)
  rw [made_t ⟨by decide, fun w hw => by
    simp only [List.mem_cons, List.not_mem_nil, or_false] at hw
    rcases hw with rfl | rfl <;> decide, by decide, by show 1 ≤ 1 ∧ 1 < 2; decide, by simp, fun b hb => by
    rw [List.mem_singleton.mp hb]
    exact ⟨hm3, hm4⟩⟩]
  rfl
end Cr
namespace Cr
open PySem PySem.Spec PyProof.Rows L2
/-! the derivations of law_k17_rides, printed by gen.py -/
def top (i : Nat) : Stmt := PySem.Challenge.pw_coastersafe_k17_rides.main.body.getD i (.Pass ⟨0, 0, 0, 0⟩)
abbrev s_wall : Stmt := (top 0)
abbrev s_ride_init : Stmt := (inClass (top 9) 0)
abbrev s_ride_blocks : Stmt := (inClass (top 9) 1)
abbrev s_ride_station : Stmt := (inClass (top 9) 2)
abbrev s_ride_next_block : Stmt := (inClass (top 9) 3)
abbrev s_ride_first : Stmt := (inClass (top 9) 4)
abbrev s_ride_sensors : Stmt := (inClass (top 9) 5)
abbrev s_ride_calipers : Stmt := (inClass (top 9) 6)
abbrev s_ride_parts : Stmt := (inClass (top 9) 7)
abbrev s_ride_least_age : Stmt := (inClass (top 9) 8)
abbrev s_ride_greatest_age : Stmt := (inClass (top 9) 9)
abbrev s_law_cell : Stmt := (top 11)
abbrev s_law_draws : Stmt := (top 12)
abbrev s_law_like : Stmt := (top 13)
abbrev s_law_ride : Stmt := (top 14)
abbrev s_law_parts : Stmt := (top 15)
abbrev s_law_made : Stmt := (top 16)
abbrev s_law : Stmt := (top 17)
def tfl : List He.Defn := [("Ride", some "__init__")]
def ct (K : Fg) : CT := ⟨fun c => match c with
  | 0 => He.ga K "CoasterError"
  | 4 => He.ga K "InvalidRide"
  | 22 => He.ga K "Ride"
  | _ => 0, fun a => a ∈ tfl.map (fun p => (He.cT K p).2)⟩
abbrev TBs (K : Fg) (mg : Str → Option Value) (base : Heap) : Prop := ∀ p ∈ tfl, GxR.TabB base mg (He.cT K p).1 (He.cT K p).2
def d_wall : He.DefD := ⟨("_wall", none), "_wall", "_wall", defArgs s_wall, defBody s_wall, defScope s_wall, [], []⟩
def d_ride_init : He.DefD := ⟨("Ride", some "__init__"), "__init__", "Ride.__init__", defArgs s_ride_init, defBody s_ride_init, defScope s_ride_init, [], []⟩
def d_ride_blocks : He.DefD := ⟨("Ride", some "blocks"), "blocks", "Ride.blocks", defArgs s_ride_blocks, defBody s_ride_blocks, defScope s_ride_blocks, [], []⟩
def d_ride_station : He.DefD := ⟨("Ride", some "station"), "station", "Ride.station", defArgs s_ride_station, defBody s_ride_station, defScope s_ride_station, [], []⟩
def d_ride_next_block : He.DefD := ⟨("Ride", some "next_block"), "next_block", "Ride.next_block", defArgs s_ride_next_block, defBody s_ride_next_block, defScope s_ride_next_block, [], []⟩
def d_ride_first : He.DefD := ⟨("Ride", some "first"), "first", "Ride.first", defArgs s_ride_first, defBody s_ride_first, defScope s_ride_first, [], []⟩
def d_ride_sensors : He.DefD := ⟨("Ride", some "sensors"), "sensors", "Ride.sensors", defArgs s_ride_sensors, defBody s_ride_sensors, defScope s_ride_sensors, [], []⟩
def d_ride_calipers : He.DefD := ⟨("Ride", some "calipers"), "calipers", "Ride.calipers", defArgs s_ride_calipers, defBody s_ride_calipers, defScope s_ride_calipers, [], []⟩
def d_ride_parts : He.DefD := ⟨("Ride", some "parts"), "parts", "Ride.parts", defArgs s_ride_parts, defBody s_ride_parts, defScope s_ride_parts, [], []⟩
def d_ride_least_age : He.DefD := ⟨("Ride", some "least_age"), "least_age", "Ride.least_age", defArgs s_ride_least_age, defBody s_ride_least_age, defScope s_ride_least_age, [], []⟩
def d_ride_greatest_age : He.DefD := ⟨("Ride", some "greatest_age"), "greatest_age", "Ride.greatest_age", defArgs s_ride_greatest_age, defBody s_ride_greatest_age, defScope s_ride_greatest_age, [], []⟩
def d_law_cell : He.DefD := ⟨("_law_cell", none), "_law_cell", "_law_cell", defArgs s_law_cell, defBody s_law_cell, defScope s_law_cell, [], []⟩
def d_law_draws : He.DefD := ⟨("_law_draws", none), "_law_draws", "_law_draws", defArgs s_law_draws, defBody s_law_draws, defScope s_law_draws, [], []⟩
def d_law_like : He.DefD := ⟨("_law_like", none), "_law_like", "_law_like", defArgs s_law_like, defBody s_law_like, defScope s_law_like, [], []⟩
def d_law_ride : He.DefD := ⟨("_law_ride", none), "_law_ride", "_law_ride", defArgs s_law_ride, defBody s_law_ride, defScope s_law_ride, [], []⟩
def d_law_parts : He.DefD := ⟨("_law_parts", none), "_law_parts", "_law_parts", defArgs s_law_parts, defBody s_law_parts, defScope s_law_parts, [], []⟩
def d_law_made : He.DefD := ⟨("_law_made", none), "_law_made", "_law_made", defArgs s_law_made, defBody s_law_made, defScope s_law_made, [], []⟩
def d_law : He.DefD := ⟨("law", none), "law", "law", defArgs s_law, defBody s_law, defScope s_law, [], []⟩
def fa : List He.Fa := [.free "len", .int "MOST_BLOCKS" 12, .free "all", .int "MOST_AGE" 99, .exc "InvalidRide", .glo "InvalidRide", .int "MOST_OVER" 20, .free "set", .cls "Ride", .noat "Ride" "ways", .free "tuple", .noat "Ride" "over", .noat "Ride" "trains", .str "HELD" "held", .free "range", .free "abs", .free "int", .free "isinstance", .free "bool", .free "str", .free "list", .free "max", .exm "InvalidRide" "InvalidRide" true, .glo "_wall", .glo "Ride", .mkr "Ride", .meth "Ride" "blocks", .meth "Ride" "station", .meth "Ride" "next_block", .meth "Ride" "first", .meth "Ride" "sensors", .meth "Ride" "calipers", .meth "Ride" "parts", .meth "Ride" "least_age", .meth "Ride" "greatest_age", .glo "_law_cell", .glo "_law_draws", .glo "_law_like", .glo "_law_ride", .glo "_law_parts", .glo "_law_made", .glo "law"]
def fn : List He.DefD := [d_wall,
  d_ride_init,
  d_ride_blocks,
  d_ride_station,
  d_ride_next_block,
  d_ride_first,
  d_ride_sensors,
  d_ride_calipers,
  d_ride_parts,
  d_ride_least_age,
  d_ride_greatest_age,
  d_law_cell,
  d_law_draws,
  d_law_like,
  d_law_ride,
  d_law_parts,
  d_law_made,
  d_law]
def xs : List (Fg → Bool) := []
section
variable {P : Program} {w : World} {K : Fg} {mg : Str → Option Value} {base : Heap}
theorem sc_wall : FnScope ["k"] ["k"] (defScope s_wall) := ⟨rfl, rfl, rfl, by decide +kernel, rfl, by decide +kernel, by decide +kernel⟩
theorem at_wall (A : Wt fa fn xs K mg) (B : TBs K mg base) : FnAt P w K mg base (ct K) 1 "_wall" 1 m_wall := by
  obtain ⟨fd, F⟩ := A.def_ 0 (d := d_wall) rfl
  have F : FunD K "_wall" "_wall" (defArgs s_wall) (defBody s_wall) (defScope s_wall) [] [] (He.fAd K ("_wall", none)) fd := F
  have hb : Binds K fd ["k"] [] := binds_n F fun _ _ _ _ _ _ us hl => match us, hl with | [_], _ => rfl
  have hg : mg "_wall" = some (.ref (He.ga K "_wall")) := A.glo 23
  have hg : mg "_wall" = some (.ref (He.fAd K ("_wall", none))) := hg
  have hk := F.kp
  have z : FnOk P w K mg base (L2.CX P w) (0 + 1) (He.fAd K ("_wall", none)) fd ["k"] (spD K (ct K) 1 (runD 1 b_wall)) := by
    refine fn_ok (k := 0) (N := ["k"]) (n := 1) (m := b_wall) F sc_wall rfl fun cdv A0 outer s H E Fb hr => ?_
    exact (mss_one (ms_while 1000 (passes_of rfl) (mt_val me_bl) (mss_one ms_pass)))
  exact ⟨(He.fAd K ("_wall", none)), fd, ["k"], z, hg, hk, hb⟩
theorem sc_ride_init : FnScope ["self", "ways", "over", "trains", "block", "low", "high"] ["self", "ways", "over", "trains"] (defScope s_ride_init) := ⟨rfl, rfl, rfl, by decide +kernel, rfl, by decide +kernel, by decide +kernel⟩
theorem at_ride_init (A : Wt fa fn xs K mg) (B : TBs K mg base) : MkAt P w K mg base (ct K) 1 22 "Ride" 3 m_ride_init := by
  obtain ⟨fd, F⟩ := A.def_ 1 (d := d_ride_init) rfl
  have F : FunD K "__init__" "Ride.__init__" (defArgs s_ride_init) (defBody s_ride_init) (defScope s_ride_init) [] [] (He.fAd K ("Ride", some "__init__")) fd := F
  have hb : Binds K fd ["self", "ways", "over", "trains"] [] := binds_n F fun _ _ _ _ _ _ us hl => match us, hl with | [_, _, _, _], _ => rfl
  have hg : mg "Ride" = some (.ref (He.ga K "Ride")) := A.glo 24
  have hk : Mk K (He.ga K "Ride") (He.ma K (He.ga K "Ride") "__init__") := A.mkr 25
  have hk : Mk K (He.ga K "Ride") (He.fAd K ("Ride", some "__init__")) := hk
  have z : FnOk P w K mg base (L2.CX P w) (0 + 1) (He.fAd K ("Ride", some "__init__")) fd ["self", "ways", "over", "trains"] (spI K (ct K) 22 3 (runI 7 22 b_ride_init)) := by
    refine init_okC (d := ("Ride", some "__init__")) (k := 0) (N := ["self", "ways", "over", "trains", "block", "low", "high"]) (n := 3) (c := 22) (m := b_ride_init) F sc_ride_init rfl fun A0 outer s H E Fb hr => ?_
    exact (mss_cons (ms_if (MW.toT (mw_or (mt_not (mt_chain om_le om_le (ME.toB me_int) (ME.toB (me_bi cm_len (A.free 0) (by decide +kernel) (mlb_cons (ME.toB (me_var 1)) mlb_nil))) (ME.toB (me_glo (A.int 1))))) (mw_or1 (mt_not (mt_val (me_allG2 5 6 hr (A.free 2) (List.mem_map.mpr ⟨("Ride", some "__init__"), (by simp [tfl]), rfl⟩) (B ("Ride", some "__init__") (by simp [tfl])) (ME.toB (me_var 1)) (qm_chain3 og_le og_le og_le qm_int (qm_loc 5 (by simp) (by kernel_rfl)) (qm_loc 6 (by simp) (by kernel_rfl)) (qm_glo (A.int 3) (by kernel_rfl))) (S0 := by kernel_rfl))))))) (mss_one (ms_raise rfl (A.exc 4 5))) mss_nil) (mss_cons (ms_if (mt_not (mt_chain om_le om_le (ME.toB me_int) (ME.toB (me_var 2)) (ME.toB (me_glo (A.int 6))))) (mss_one (ms_raise rfl (A.exc 4 5))) mss_nil) (mss_cons (ms_if (MW.toT (mw_or (mt_not (mt_chain om_le om_lt (ME.toB me_int) (ME.toB (me_bi cm_len (A.free 0) (by decide +kernel) (mlb_cons (ME.toB (me_var 3)) mlb_nil))) (ME.toB (me_bi cm_len (A.free 0) (by decide +kernel) (mlb_cons (ME.toB (me_var 1)) mlb_nil))))) (mw_or1 (mt_cmp (om_ne (hr).units) (ME.toB (me_lenSetN (A.free 0) (A.free 7) (ME.toB (me_var 3)))) (ME.toB (me_bi cm_len (A.free 0) (by decide +kernel) (mlb_cons (ME.toB (me_var 3)) mlb_nil))))))) (mss_one (ms_raise rfl (A.exc 4 5))) mss_nil) (mss_cons (ms_if (mt_not (mt_val (me_allG 4 hr (A.free 2) (List.mem_map.mpr ⟨("Ride", some "__init__"), (by simp [tfl]), rfl⟩) (B ("Ride", some "__init__") (by simp [tfl])) (ME.toB (me_var 3)) (qm_chain2 og_le og_lt qm_int (qm_loc 4 (by simp) (by kernel_rfl)) (qm_len (A.free 0) (qm_cap 1 (by decide) (by kernel_rfl)) (by kernel_rfl))) (S0 := by kernel_rfl)))) (mss_one (ms_raise rfl (A.exc 4 5))) mss_nil) (mss_cons (ms_selfSet 0 22 (A.cls 8) (A.noat 9) (me_bty cm_tup (A.free 10) (by decide +kernel) (mlb_cons (ME.toB (me_var 1)) mlb_nil))) (mss_cons (ms_selfSet 0 22 (A.cls 8) (A.noat 11) (me_var 2)) (mss_one (ms_selfSet 0 22 (A.cls 8) (A.noat 12) (me_bty cm_tup (A.free 10) (by decide +kernel) (mlb_cons (ME.toB (me_var 3)) mlb_nil))))))))))
  exact ⟨(He.fAd K ("Ride", some "__init__")), fd, ["self", "ways", "over", "trains"], z, hg, hk, hb⟩
theorem sc_ride_blocks : FnScope ["self"] ["self"] (defScope s_ride_blocks) := ⟨rfl, rfl, rfl, by decide +kernel, rfl, by decide +kernel, by decide +kernel⟩
theorem at_ride_blocks (A : Wt fa fn xs K mg) (B : TBs K mg base) : MthAt P w K mg base (ct K) 2 22 "blocks" 0 m_ride_blocks := by
  obtain ⟨fd, F⟩ := A.def_ 2 (d := d_ride_blocks) rfl
  have F : FunD K "blocks" "Ride.blocks" (defArgs s_ride_blocks) (defBody s_ride_blocks) (defScope s_ride_blocks) [] [] (He.fAd K ("Ride", some "blocks")) fd := F
  have hb : Binds K fd ["self"] [] := binds_n F fun _ _ _ _ _ _ us hl => match us, hl with | [_], _ => rfl
  have hk : Meth K (He.ga K "Ride") "blocks" (He.ma K (He.ga K "Ride") "blocks") := A.meth 26
  have hk : Meth K (He.ga K "Ride") "blocks" (He.fAd K ("Ride", some "blocks")) := hk
  have z : FnOk P w K mg base (L2.CX P w) (1 + 1) (He.fAd K ("Ride", some "blocks")) fd ["self"] (spD K (ct K) 1 (runD 1 b_ride_blocks)) := by
    refine fn_ok (k := 1) (N := ["self"]) (n := 1) (m := b_ride_blocks) F sc_ride_blocks rfl fun cdv A0 outer s H E Fb hr => ?_
    exact (mss_one (ms_expr (me_call (at_wall A B) (hr.mono (by decide)) (ml_cons me_int ml_nil) (len_cons len_nil))))
  exact ⟨(He.fAd K ("Ride", some "blocks")), fd, ["self"], z, hk, hb⟩
theorem sc_ride_station : FnScope ["self"] ["self"] (defScope s_ride_station) := ⟨rfl, rfl, rfl, by decide +kernel, rfl, by decide +kernel, by decide +kernel⟩
theorem at_ride_station (A : Wt fa fn xs K mg) (B : TBs K mg base) : MthAt P w K mg base (ct K) 2 22 "station" 0 m_ride_station := by
  obtain ⟨fd, F⟩ := A.def_ 3 (d := d_ride_station) rfl
  have F : FunD K "station" "Ride.station" (defArgs s_ride_station) (defBody s_ride_station) (defScope s_ride_station) [] [] (He.fAd K ("Ride", some "station")) fd := F
  have hb : Binds K fd ["self"] [] := binds_n F fun _ _ _ _ _ _ us hl => match us, hl with | [_], _ => rfl
  have hk : Meth K (He.ga K "Ride") "station" (He.ma K (He.ga K "Ride") "station") := A.meth 27
  have hk : Meth K (He.ga K "Ride") "station" (He.fAd K ("Ride", some "station")) := hk
  have z : FnOk P w K mg base (L2.CX P w) (1 + 1) (He.fAd K ("Ride", some "station")) fd ["self"] (spD K (ct K) 1 (runD 1 b_ride_station)) := by
    refine fn_ok (k := 1) (N := ["self"]) (n := 1) (m := b_ride_station) F sc_ride_station rfl fun cdv A0 outer s H E Fb hr => ?_
    exact (mss_one (ms_expr (me_call (at_wall A B) (hr.mono (by decide)) (ml_cons me_int ml_nil) (len_cons len_nil))))
  exact ⟨(He.fAd K ("Ride", some "station")), fd, ["self"], z, hk, hb⟩
theorem sc_ride_next_block : FnScope ["self", "block"] ["self", "block"] (defScope s_ride_next_block) := ⟨rfl, rfl, rfl, by decide +kernel, rfl, by decide +kernel, by decide +kernel⟩
theorem at_ride_next_block (A : Wt fa fn xs K mg) (B : TBs K mg base) : MthAt P w K mg base (ct K) 2 22 "next_block" 1 m_ride_next_block := by
  obtain ⟨fd, F⟩ := A.def_ 4 (d := d_ride_next_block) rfl
  have F : FunD K "next_block" "Ride.next_block" (defArgs s_ride_next_block) (defBody s_ride_next_block) (defScope s_ride_next_block) [] [] (He.fAd K ("Ride", some "next_block")) fd := F
  have hb : Binds K fd ["self", "block"] [] := binds_n F fun _ _ _ _ _ _ us hl => match us, hl with | [_, _], _ => rfl
  have hk : Meth K (He.ga K "Ride") "next_block" (He.ma K (He.ga K "Ride") "next_block") := A.meth 28
  have hk : Meth K (He.ga K "Ride") "next_block" (He.fAd K ("Ride", some "next_block")) := hk
  have z : FnOk P w K mg base (L2.CX P w) (1 + 1) (He.fAd K ("Ride", some "next_block")) fd ["self", "block"] (spD K (ct K) 2 (runD 2 b_ride_next_block)) := by
    refine fn_ok (k := 1) (N := ["self", "block"]) (n := 2) (m := b_ride_next_block) F sc_ride_next_block rfl fun cdv A0 outer s H E Fb hr => ?_
    exact (mss_one (ms_expr (me_call (at_wall A B) (hr.mono (by decide)) (ml_cons me_int ml_nil) (len_cons len_nil))))
  exact ⟨(He.fAd K ("Ride", some "next_block")), fd, ["self", "block"], z, hk, hb⟩
theorem sc_ride_first : FnScope ["self", "block"] ["self"] (defScope s_ride_first) := ⟨rfl, rfl, rfl, by decide +kernel, rfl, by decide +kernel, by decide +kernel⟩
theorem at_ride_first (A : Wt fa fn xs K mg) (B : TBs K mg base) : MthAt P w K mg base (ct K) 1 22 "first" 0 m_ride_first := by
  obtain ⟨fd, F⟩ := A.def_ 5 (d := d_ride_first) rfl
  have F : FunD K "first" "Ride.first" (defArgs s_ride_first) (defBody s_ride_first) (defScope s_ride_first) [] [] (He.fAd K ("Ride", some "first")) fd := F
  have hb : Binds K fd ["self"] [] := binds_n F fun _ _ _ _ _ _ us hl => match us, hl with | [_], _ => rfl
  have hk : Meth K (He.ga K "Ride") "first" (He.ma K (He.ga K "Ride") "first") := A.meth 29
  have hk : Meth K (He.ga K "Ride") "first" (He.fAd K ("Ride", some "first")) := hk
  have z : FnOk P w K mg base (L2.CX P w) (0 + 1) (He.fAd K ("Ride", some "first")) fd ["self"] (spD K (ct K) 1 (runD 2 b_ride_first)) := by
    refine fn_ok (k := 0) (N := ["self", "block"]) (n := 1) (m := b_ride_first) F sc_ride_first rfl fun cdv A0 outer s H E Fb hr => ?_
    exact (mss_one (ms_ret (me_tup (ml_cons (me_bty cm_tup (A.free 10) (by decide +kernel) (mlb_cons (ME.toB (MF.toE (mf_comp (own := [("block", 1)]) rfl sc_ride_first.nd (MI.b (mi_seq (me_fld 22 2 (A.cls 8) (A.noat 12) (me_var 0)))) (blkOk_by (by kernel_rfl)) (fun _ _ _ _ _ _ => (mg_name 1 sc_ride_first.nd)) (fun _ _ _ _ _ _ => mts_nil) (fun _ _ _ _ _ _ => (me_tup (ml_cons (me_glo (A.str 13)) (ml_cons (me_var 1) (ml_cons me_int ml_nil)))))))) mlb_nil)) (ml_cons me_int (ml_cons me_non ml_nil))))))
  exact ⟨(He.fAd K ("Ride", some "first")), fd, ["self"], z, hk, hb⟩
theorem sc_ride_sensors : FnScope ["self", "found", "block"] ["self"] (defScope s_ride_sensors) := ⟨rfl, rfl, rfl, by decide +kernel, rfl, by decide +kernel, by decide +kernel⟩
theorem at_ride_sensors (A : Wt fa fn xs K mg) (B : TBs K mg base) : MthAt P w K mg base (ct K) 1 22 "sensors" 0 m_ride_sensors := by
  obtain ⟨fd, F⟩ := A.def_ 6 (d := d_ride_sensors) rfl
  have F : FunD K "sensors" "Ride.sensors" (defArgs s_ride_sensors) (defBody s_ride_sensors) (defScope s_ride_sensors) [] [] (He.fAd K ("Ride", some "sensors")) fd := F
  have hb : Binds K fd ["self"] [] := binds_n F fun _ _ _ _ _ _ us hl => match us, hl with | [_], _ => rfl
  have hk : Meth K (He.ga K "Ride") "sensors" (He.ma K (He.ga K "Ride") "sensors") := A.meth 30
  have hk : Meth K (He.ga K "Ride") "sensors" (He.fAd K ("Ride", some "sensors")) := hk
  have z : FnOk P w K mg base (L2.CX P w) (0 + 1) (He.fAd K ("Ride", some "sensors")) fd ["self"] (spD K (ct K) 1 (runD 3 b_ride_sensors)) := by
    refine fn_ok (k := 0) (N := ["self", "found", "block"]) (n := 1) (m := b_ride_sensors) F sc_ride_sensors rfl fun cdv A0 outer s H E Fb hr => ?_
    exact (mss_cons (ms_setO 1 sc_ride_sensors.nd (mf_lst ml_nil)) (mss_cons (ms_for (vs := [2]) (passes_of rfl) rfl (mi_range1 (A.free 14) (ml_cons (me_bi cm_len (A.free 0) (by decide +kernel) (mlb_cons (ME.toB (me_fld 22 0 (A.cls 8) (A.noat 9) (me_var 0))) mlb_nil)) ml_nil)) (mg_name 2 sc_ride_sensors.nd) (mss_one (ms_lm 1 lm_extend (mlb_cons (ME.toB (MF.toE (mf_lst (ml_cons (me_tup (ml_cons me_str (ml_cons (me_var 2) (ml_cons me_int ml_nil)))) (ml_cons (me_tup (ml_cons me_str (ml_cons (me_var 2) (ml_cons me_int ml_nil)))) ml_nil))))) mlb_nil) (hpe := fun h h0 h1 => pe_bm PySem.F.plainAttrs_list PySem.F.slot_list_extend PySem.F.type_list_extend h h0 h1)))) (mss_one (ms_ret (me_bin om_add (mb_var 1) (ME.toB (MF.toE (mf_lst (ml_cons (me_tup (ml_cons me_str (ml_cons me_int (ml_cons me_int ml_nil)))) (ml_cons (me_tup (ml_cons me_str (ml_cons me_int (ml_cons me_int ml_nil)))) ml_nil))))))))))
  exact ⟨(He.fAd K ("Ride", some "sensors")), fd, ["self"], z, hk, hb⟩
theorem sc_ride_calipers : FnScope ["self", "found", "block"] ["self"] (defScope s_ride_calipers) := ⟨rfl, rfl, rfl, by decide +kernel, rfl, by decide +kernel, by decide +kernel⟩
theorem at_ride_calipers (A : Wt fa fn xs K mg) (B : TBs K mg base) : MthAt P w K mg base (ct K) 1 22 "calipers" 0 m_ride_calipers := by
  obtain ⟨fd, F⟩ := A.def_ 7 (d := d_ride_calipers) rfl
  have F : FunD K "calipers" "Ride.calipers" (defArgs s_ride_calipers) (defBody s_ride_calipers) (defScope s_ride_calipers) [] [] (He.fAd K ("Ride", some "calipers")) fd := F
  have hb : Binds K fd ["self"] [] := binds_n F fun _ _ _ _ _ _ us hl => match us, hl with | [_], _ => rfl
  have hk : Meth K (He.ga K "Ride") "calipers" (He.ma K (He.ga K "Ride") "calipers") := A.meth 31
  have hk : Meth K (He.ga K "Ride") "calipers" (He.fAd K ("Ride", some "calipers")) := hk
  have z : FnOk P w K mg base (L2.CX P w) (0 + 1) (He.fAd K ("Ride", some "calipers")) fd ["self"] (spD K (ct K) 1 (runD 3 b_ride_calipers)) := by
    refine fn_ok (k := 0) (N := ["self", "found", "block"]) (n := 1) (m := b_ride_calipers) F sc_ride_calipers rfl fun cdv A0 outer s H E Fb hr => ?_
    exact (mss_cons (ms_setO 1 sc_ride_calipers.nd (mf_lst ml_nil)) (mss_cons (ms_for (vs := [2]) (passes_of rfl) rfl (mi_range1 (A.free 14) (ml_cons (me_bi cm_len (A.free 0) (by decide +kernel) (mlb_cons (ME.toB (me_fld 22 0 (A.cls 8) (A.noat 9) (me_var 0))) mlb_nil)) ml_nil)) (mg_name 2 sc_ride_calipers.nd) (mss_one (ms_lm 1 lm_extend (mlb_cons (ME.toB (MF.toE (mf_lst (ml_cons (me_tup (ml_cons me_str (ml_cons (me_var 2) (ml_cons me_int ml_nil)))) (ml_cons (me_tup (ml_cons me_str (ml_cons (me_var 2) (ml_cons me_int ml_nil)))) ml_nil))))) mlb_nil) (hpe := fun h h0 h1 => pe_bm PySem.F.plainAttrs_list PySem.F.slot_list_extend PySem.F.type_list_extend h h0 h1)))) (mss_frz 1 (mss_one (ms_ret (me_var 1))))))
  exact ⟨(He.fAd K ("Ride", some "calipers")), fd, ["self"], z, hk, hb⟩
theorem sc_ride_parts : FnScope ["self"] ["self"] (defScope s_ride_parts) := ⟨rfl, rfl, rfl, by decide +kernel, rfl, by decide +kernel, by decide +kernel⟩
theorem at_ride_parts (A : Wt fa fn xs K mg) (B : TBs K mg base) : MthAt P w K mg base (ct K) 2 22 "parts" 0 m_ride_parts := by
  obtain ⟨fd, F⟩ := A.def_ 8 (d := d_ride_parts) rfl
  have F : FunD K "parts" "Ride.parts" (defArgs s_ride_parts) (defBody s_ride_parts) (defScope s_ride_parts) [] [] (He.fAd K ("Ride", some "parts")) fd := F
  have hb : Binds K fd ["self"] [] := binds_n F fun _ _ _ _ _ _ us hl => match us, hl with | [_], _ => rfl
  have hk : Meth K (He.ga K "Ride") "parts" (He.ma K (He.ga K "Ride") "parts") := A.meth 32
  have hk : Meth K (He.ga K "Ride") "parts" (He.fAd K ("Ride", some "parts")) := hk
  have z : FnOk P w K mg base (L2.CX P w) (1 + 1) (He.fAd K ("Ride", some "parts")) fd ["self"] (spD K (ct K) 1 (runD 1 b_ride_parts)) := by
    refine fn_ok (k := 1) (N := ["self"]) (n := 1) (m := b_ride_parts) F sc_ride_parts rfl fun cdv A0 outer s H E Fb hr => ?_
    exact (mss_one (ms_ret (me_bin om_add (ME.toB (me_meth0 (at_ride_sensors A B) (A.cls 8) (hr.mono (by decide)) (me_var 0))) (ME.toB (me_meth0 (at_ride_calipers A B) (A.cls 8) (hr.mono (by decide)) (me_var 0))))))
  exact ⟨(He.fAd K ("Ride", some "parts")), fd, ["self"], z, hk, hb⟩
theorem sc_ride_least_age : FnScope ["self", "train"] ["self", "train"] (defScope s_ride_least_age) := ⟨rfl, rfl, rfl, by decide +kernel, rfl, by decide +kernel, by decide +kernel⟩
theorem at_ride_least_age (A : Wt fa fn xs K mg) (B : TBs K mg base) : MthAt P w K mg base (ct K) 2 22 "least_age" 1 m_ride_least_age := by
  obtain ⟨fd, F⟩ := A.def_ 9 (d := d_ride_least_age) rfl
  have F : FunD K "least_age" "Ride.least_age" (defArgs s_ride_least_age) (defBody s_ride_least_age) (defScope s_ride_least_age) [] [] (He.fAd K ("Ride", some "least_age")) fd := F
  have hb : Binds K fd ["self", "train"] [] := binds_n F fun _ _ _ _ _ _ us hl => match us, hl with | [_, _], _ => rfl
  have hk : Meth K (He.ga K "Ride") "least_age" (He.ma K (He.ga K "Ride") "least_age") := A.meth 33
  have hk : Meth K (He.ga K "Ride") "least_age" (He.fAd K ("Ride", some "least_age")) := hk
  have z : FnOk P w K mg base (L2.CX P w) (1 + 1) (He.fAd K ("Ride", some "least_age")) fd ["self", "train"] (spD K (ct K) 2 (runD 2 b_ride_least_age)) := by
    refine fn_ok (k := 1) (N := ["self", "train"]) (n := 2) (m := b_ride_least_age) F sc_ride_least_age rfl fun cdv A0 outer s H E Fb hr => ?_
    exact (mss_one (ms_expr (me_call (at_wall A B) (hr.mono (by decide)) (ml_cons me_int ml_nil) (len_cons len_nil))))
  exact ⟨(He.fAd K ("Ride", some "least_age")), fd, ["self", "train"], z, hk, hb⟩
theorem sc_ride_greatest_age : FnScope ["self", "train"] ["self", "train"] (defScope s_ride_greatest_age) := ⟨rfl, rfl, rfl, by decide +kernel, rfl, by decide +kernel, by decide +kernel⟩
theorem at_ride_greatest_age (A : Wt fa fn xs K mg) (B : TBs K mg base) : MthAt P w K mg base (ct K) 2 22 "greatest_age" 1 m_ride_greatest_age := by
  obtain ⟨fd, F⟩ := A.def_ 10 (d := d_ride_greatest_age) rfl
  have F : FunD K "greatest_age" "Ride.greatest_age" (defArgs s_ride_greatest_age) (defBody s_ride_greatest_age) (defScope s_ride_greatest_age) [] [] (He.fAd K ("Ride", some "greatest_age")) fd := F
  have hb : Binds K fd ["self", "train"] [] := binds_n F fun _ _ _ _ _ _ us hl => match us, hl with | [_, _], _ => rfl
  have hk : Meth K (He.ga K "Ride") "greatest_age" (He.ma K (He.ga K "Ride") "greatest_age") := A.meth 34
  have hk : Meth K (He.ga K "Ride") "greatest_age" (He.fAd K ("Ride", some "greatest_age")) := hk
  have z : FnOk P w K mg base (L2.CX P w) (1 + 1) (He.fAd K ("Ride", some "greatest_age")) fd ["self", "train"] (spD K (ct K) 2 (runD 2 b_ride_greatest_age)) := by
    refine fn_ok (k := 1) (N := ["self", "train"]) (n := 2) (m := b_ride_greatest_age) F sc_ride_greatest_age rfl fun cdv A0 outer s H E Fb hr => ?_
    exact (mss_one (ms_expr (me_call (at_wall A B) (hr.mono (by decide)) (ml_cons me_int ml_nil) (len_cons len_nil))))
  exact ⟨(He.fAd K ("Ride", some "greatest_age")), fd, ["self", "train"], z, hk, hb⟩
theorem sc_law_cell : FnScope ["script", "k"] ["script", "k"] (defScope s_law_cell) := ⟨rfl, rfl, rfl, by decide +kernel, rfl, by decide +kernel, by decide +kernel⟩
theorem at_law_cell (A : Wt fa fn xs K mg) (B : TBs K mg base) : FnAt P w K mg base (ct K) 1 "_law_cell" 2 m_law_cell := by
  obtain ⟨fd, F⟩ := A.def_ 11 (d := d_law_cell) rfl
  have F : FunD K "_law_cell" "_law_cell" (defArgs s_law_cell) (defBody s_law_cell) (defScope s_law_cell) [] [] (He.fAd K ("_law_cell", none)) fd := F
  have hb : Binds K fd ["script", "k"] [] := binds_n F fun _ _ _ _ _ _ us hl => match us, hl with | [_, _], _ => rfl
  have hg : mg "_law_cell" = some (.ref (He.ga K "_law_cell")) := A.glo 35
  have hg : mg "_law_cell" = some (.ref (He.fAd K ("_law_cell", none))) := hg
  have hk := F.kp
  have z : FnOk P w K mg base (L2.CX P w) (0 + 1) (He.fAd K ("_law_cell", none)) fd ["script", "k"] (spD K (ct K) 2 (runD 2 b_law_cell)) := by
    refine fn_ok (k := 0) (N := ["script", "k"]) (n := 2) (m := b_law_cell) F sc_law_cell rfl fun cdv A0 outer s H E Fb hr => ?_
    exact (mss_cons (ms_if (mt_cmp om_lt (ME.toB (me_var 1)) (ME.toB (me_bi cm_len (A.free 0) (by decide +kernel) (mlb_cons (ME.toB (me_var 0)) mlb_nil)))) (mss_one (ms_ret (me_bi cm_abs (A.free 15) (by decide +kernel) (mlb_cons (ME.toB (me_bty cm_int (A.free 16) (by decide +kernel) (mlb_cons (ME.toB (me_ix (ME.toB (me_var 0)) (ME.toB (me_var 1)))) mlb_nil))) mlb_nil)))) mss_nil) (mss_one (ms_ret me_int)))
  exact ⟨(He.fAd K ("_law_cell", none)), fd, ["script", "k"], z, hg, hk, hb⟩
theorem sc_law_draws : FnScope ["cell", "count", "rows", "left", "k", "mixed"] ["cell", "count"] (defScope s_law_draws) := ⟨rfl, rfl, rfl, by decide +kernel, rfl, by decide +kernel, by decide +kernel⟩
theorem at_law_draws (A : Wt fa fn xs K mg) (B : TBs K mg base) : FnAt P w K mg base (ct K) 1 "_law_draws" 2 m_law_draws := by
  obtain ⟨fd, F⟩ := A.def_ 12 (d := d_law_draws) rfl
  have F : FunD K "_law_draws" "_law_draws" (defArgs s_law_draws) (defBody s_law_draws) (defScope s_law_draws) [] [] (He.fAd K ("_law_draws", none)) fd := F
  have hb : Binds K fd ["cell", "count"] [] := binds_n F fun _ _ _ _ _ _ us hl => match us, hl with | [_, _], _ => rfl
  have hg : mg "_law_draws" = some (.ref (He.ga K "_law_draws")) := A.glo 36
  have hg : mg "_law_draws" = some (.ref (He.fAd K ("_law_draws", none))) := hg
  have hk := F.kp
  have z : FnOk P w K mg base (L2.CX P w) (0 + 1) (He.fAd K ("_law_draws", none)) fd ["cell", "count"] (spD K (ct K) 2 (runD 6 b_law_draws)) := by
    refine fn_ok (k := 0) (N := ["cell", "count", "rows", "left", "k", "mixed"]) (n := 2) (m := b_law_draws) F sc_law_draws rfl fun cdv A0 outer s H E Fb hr => ?_
    exact (mss_cons (ms_setO 2 sc_law_draws.nd (mf_lst ml_nil)) (mss_cons (ms_set 3 sc_law_draws.nd (me_var 0)) (mss_cons (ms_for (vs := [4]) (passes_of rfl) rfl (mi_range1 (A.free 14) (ml_cons (me_var 1) ml_nil)) (mg_name 4 sc_law_draws.nd) (mss_one (ms_if (MW.toT (mw_and (mt_cmp om_ge (ME.toB (me_var 0)) (ME.toB (me_bin om_pow (ME.toB me_int) (ME.toB me_int)))) (mw_and1 (mt_cmp om_gt (ME.toB (me_var 3)) (ME.toB me_int))))) (mss_cons (ms_lw 2 lw_append (ml_cons (me_bin om_mod (ME.toB (me_bty cm_int (A.free 16) (by decide +kernel) (mlb_cons (ME.toB (me_var 3)) mlb_nil))) (ME.toB me_int)) ml_nil) (hpe := fun h h0 h1 => pe_bm PySem.F.plainAttrs_list PySem.F.slot_list_append PySem.F.type_list_append h h0 h1)) (mss_one (ms_set 3 sc_law_draws.nd (me_bin om_fdiv (ME.toB (me_var 3)) (ME.toB me_int))))) (mss_cons (ms_set 5 sc_law_draws.nd (me_bin om_mod (ME.toB (me_bty cm_int (A.free 16) (by decide +kernel) (mlb_cons (ME.toB (me_bin om_add (ME.toB (me_bin om_mul (ME.toB (me_var 0)) (ME.toB me_int))) (ME.toB (me_bin om_mul (ME.toB (me_bin om_add (ME.toB (me_var 4)) (ME.toB me_int))) (ME.toB me_int))))) mlb_nil))) (ME.toB me_int))) (mss_cons (ms_set 5 sc_law_draws.nd (me_bin om_mod (ME.toB (me_bty cm_int (A.free 16) (by decide +kernel) (mlb_cons (ME.toB (me_bin om_add (ME.toB (me_bin om_add (ME.toB (me_bin om_mul (ME.toB (me_var 5)) (ME.toB (me_var 5)))) (ME.toB (me_bin om_mul (ME.toB (me_var 5)) (ME.toB me_int))))) (ME.toB (me_bin om_mul (ME.toB (me_var 4)) (ME.toB me_int))))) mlb_nil))) (ME.toB me_int))) (mss_cons (ms_set 5 sc_law_draws.nd (me_bin om_mod (ME.toB (me_bty cm_int (A.free 16) (by decide +kernel) (mlb_cons (ME.toB (me_bin om_add (ME.toB (me_bin om_add (ME.toB (me_bin om_mul (ME.toB (me_var 5)) (ME.toB (me_var 5)))) (ME.toB (me_var 0)))) (ME.toB (me_bin om_mul (ME.toB me_int) (ME.toB (me_var 4)))))) mlb_nil))) (ME.toB me_int))) (mss_one (ms_lw 2 lw_append (ml_cons (me_bin om_mod (ME.toB (me_bin om_fdiv (ME.toB (me_var 5)) (ME.toB me_int))) (ME.toB me_int)) ml_nil) (hpe := fun h h0 h1 => pe_bm PySem.F.plainAttrs_list PySem.F.slot_list_append PySem.F.type_list_append h h0 h1))))))))) (mss_frz 2 (mss_one (ms_ret (me_var 2)))))))
  exact ⟨(He.fAd K ("_law_draws", none)), fd, ["cell", "count"], z, hg, hk, hb⟩
theorem sc_law_like : FnScope ["actual", "due", "k"] ["actual", "due"] (defScope s_law_like) := ⟨rfl, rfl, rfl, by decide +kernel, rfl, by decide +kernel, by decide +kernel⟩
theorem at_law_like (A : Wt fa fn xs K mg) (B : TBs K mg base) : ∀ n : Nat, FnAt P w K mg base (ct K) (n + 1) "_law_like" 2 (m_law_like n)
  | 0 => by
    obtain ⟨fd, F⟩ := A.def_ 13 (d := d_law_like) rfl
    have F : FunD K "_law_like" "_law_like" (defArgs s_law_like) (defBody s_law_like) (defScope s_law_like) [] [] (He.fAd K ("_law_like", none)) fd := F
    have hb : Binds K fd ["actual", "due"] [] := binds_n F fun _ _ _ _ _ _ us hl => match us, hl with | [_, _], _ => rfl
    have hg : mg "_law_like" = some (.ref (He.ga K "_law_like")) := A.glo 37
    have hg : mg "_law_like" = some (.ref (He.fAd K ("_law_like", none))) := hg
    have hk := F.kp
    exact ⟨(He.fAd K ("_law_like", none)), fd, ["actual", "due"], fn_bad F, hg, hk, hb⟩
  | n + 1 => by
    have IH := at_law_like A B n
    obtain ⟨fd, F⟩ := A.def_ 13 (d := d_law_like) rfl
    have F : FunD K "_law_like" "_law_like" (defArgs s_law_like) (defBody s_law_like) (defScope s_law_like) [] [] (He.fAd K ("_law_like", none)) fd := F
    have hb : Binds K fd ["actual", "due"] [] := binds_n F fun _ _ _ _ _ _ us hl => match us, hl with | [_, _], _ => rfl
    have hg : mg "_law_like" = some (.ref (He.ga K "_law_like")) := A.glo 37
    have hg : mg "_law_like" = some (.ref (He.fAd K ("_law_like", none))) := hg
    have hk := F.kp
    have z : FnOk P w K mg base (L2.CX P w) (n + 1 + 1) (He.fAd K ("_law_like", none)) fd ["actual", "due"] (spD K (ct K) 2 (runD 3 (b_law_like (m_law_like n)))) := by
      refine fn_ok (k := n + 1) (N := ["actual", "due", "k"]) (n := 2) (m := b_law_like (m_law_like n)) F sc_law_like rfl fun cdv A0 outer s H E Fb hr => ?_
      exact (mss_cons (ms_if (mt_cmp om_is (ME.toB (me_var 1)) (ME.toB me_non)) (mss_one (ms_ret (me_cmp om_is (ME.toB (me_var 0)) (ME.toB me_non)))) mss_nil) (mss_cons (ms_if (mt_val (me_isi .bool (A.free 17) (A.free 18) (by decide +kernel) (ME.toB (me_var 1)))) (mss_one (ms_ret (me_and (me_isi .bool (A.free 17) (A.free 18) (by decide +kernel) (ME.toB (me_var 0))) (me_one (me_cmp (om_eq (hr).units) (ME.toB (me_var 0)) (ME.toB (me_var 1))))))) mss_nil) (mss_cons (ms_if (mt_val (me_isi .str (A.free 17) (A.free 19) (by decide +kernel) (ME.toB (me_var 1)))) (mss_one (ms_ret (me_and (me_isi .str (A.free 17) (A.free 19) (by decide +kernel) (ME.toB (me_var 0))) (me_one (me_cmp (om_eq (hr).units) (ME.toB (me_var 0)) (ME.toB (me_var 1))))))) mss_nil) (mss_cons (ms_if (mt_val (me_isi .int (A.free 17) (A.free 16) (by decide +kernel) (ME.toB (me_var 1)))) (mss_one (ms_ret (me_and (me_isi .int (A.free 17) (A.free 16) (by decide +kernel) (ME.toB (me_var 0))) (me_and (me_not (me_isi .bool (A.free 17) (A.free 18) (by decide +kernel) (ME.toB (me_var 0)))) (me_one (me_cmp (om_eq (hr).units) (ME.toB (me_var 0)) (ME.toB (me_var 1)))))))) mss_nil) (mss_cons (ms_if (MW.toT (mw_or (mt_cmp (om_ne (hr).units) (ME.toB (me_isi .list (A.free 17) (A.free 20) (by decide +kernel) (ME.toB (me_var 1)))) (ME.toB (me_isi .list (A.free 17) (A.free 20) (by decide +kernel) (ME.toB (me_var 0))))) (mw_or1 (mt_cmp (om_ne (hr).units) (ME.toB (me_isi .tuple (A.free 17) (A.free 10) (by decide +kernel) (ME.toB (me_var 1)))) (ME.toB (me_isi .tuple (A.free 17) (A.free 10) (by decide +kernel) (ME.toB (me_var 0)))))))) (mss_one (ms_ret me_bl)) mss_nil) (mss_cons (ms_if (mt_cmp (om_ne (hr).units) (ME.toB (me_bi cm_len (A.free 0) (by decide +kernel) (mlb_cons (ME.toB (me_var 0)) mlb_nil))) (ME.toB (me_bi cm_len (A.free 0) (by decide +kernel) (mlb_cons (ME.toB (me_var 1)) mlb_nil)))) (mss_one (ms_ret me_bl)) mss_nil) (mss_one (ms_ret (me_bi (cm_all rfl) (A.free 2) (by decide +kernel) (mlb_cons (ME.toB (MF.toE (mf_comp (own := [("k", 2)]) rfl sc_law_like.nd (MI.b (mi_range1 (A.free 14) (ml_cons (me_bi cm_len (A.free 0) (by decide +kernel) (mlb_cons (ME.toB (me_var 1)) mlb_nil)) ml_nil))) (blkOk_by (by kernel_rfl)) (fun _ _ _ _ _ _ => (mg_name 2 sc_law_like.nd)) (fun _ _ _ _ _ _ => mts_nil) (fun _ _ _ _ _ _ => (me_call (IH) (hr.mono (by omega)) (ml_cons (me_ix (ME.toB (me_var 0)) (ME.toB (me_var 2))) (ml_cons (me_ix (ME.toB (me_var 1)) (ME.toB (me_var 2))) ml_nil)) (len_cons (len_cons len_nil))))))) mlb_nil))))))))))
    have e : n + 1 + 1 = n + 1 + 1 := by omega
    rw [e]
    exact ⟨(He.fAd K ("_law_like", none)), fd, ["actual", "due"], z, hg, hk, hb⟩
theorem sc_law_ride : FnScope ["draws", "most", "count", "ways", "k", "trains", "low", "block", "turn"] ["draws", "most"] (defScope s_law_ride) := ⟨rfl, rfl, rfl, by decide +kernel, rfl, by decide +kernel, by decide +kernel⟩
theorem at_law_ride (A : Wt fa fn xs K mg) (B : TBs K mg base) : FnAt P w K mg base (ct K) 1 "_law_ride" 2 m_law_ride := by
  obtain ⟨fd, F⟩ := A.def_ 14 (d := d_law_ride) rfl
  have F : FunD K "_law_ride" "_law_ride" (defArgs s_law_ride) (defBody s_law_ride) (defScope s_law_ride) [] [] (He.fAd K ("_law_ride", none)) fd := F
  have hb : Binds K fd ["draws", "most"] [] := binds_n F fun _ _ _ _ _ _ us hl => match us, hl with | [_, _], _ => rfl
  have hg : mg "_law_ride" = some (.ref (He.ga K "_law_ride")) := A.glo 38
  have hg : mg "_law_ride" = some (.ref (He.fAd K ("_law_ride", none))) := hg
  have hk := F.kp
  have z : FnOk P w K mg base (L2.CX P w) (0 + 1) (He.fAd K ("_law_ride", none)) fd ["draws", "most"] (spD K (ct K) 2 (runD 9 b_law_ride)) := by
    refine fn_ok (k := 0) (N := ["draws", "most", "count", "ways", "k", "trains", "low", "block", "turn"]) (n := 2) (m := b_law_ride) F sc_law_ride rfl fun cdv A0 outer s H E Fb hr => ?_
    exact (mss_cons (ms_set 2 sc_law_ride.nd (me_bin om_add (ME.toB me_int) (ME.toB (me_bin om_mod (ME.toB (me_ix (ME.toB (me_var 0)) (ME.toB me_int))) (ME.toB (me_bin om_sub (ME.toB (me_var 1)) (ME.toB me_int))))))) (mss_cons (ms_setO 3 sc_law_ride.nd (mf_lst ml_nil)) (mss_cons (ms_for (vs := [4]) (passes_of rfl) rfl (mi_range1 (A.free 14) (ml_cons (me_var 2) ml_nil)) (mg_name 4 sc_law_ride.nd) (mss_cons (ms_set 6 sc_law_ride.nd (me_bin om_add (ME.toB me_int) (ME.toB (me_bin om_mod (ME.toB (me_ix (ME.toB (me_var 0)) (ME.toB (me_bin om_add (ME.toB me_int) (ME.toB (me_var 4)))))) (ME.toB me_int))))) (mss_one (ms_lw 3 lw_append (ml_cons (me_tup (ml_cons (me_var 6) (ml_cons (me_bin om_add (ME.toB (me_var 6)) (ME.toB (me_bin om_mod (ME.toB (me_bin om_fdiv (ME.toB (me_ix (ME.toB (me_var 0)) (ME.toB (me_bin om_add (ME.toB me_int) (ME.toB (me_var 4)))))) (ME.toB me_int))) (ME.toB me_int)))) ml_nil))) ml_nil) (hpe := fun h h0 h1 => pe_bm PySem.F.plainAttrs_list PySem.F.slot_list_append PySem.F.type_list_append h h0 h1))))) (mss_cons (ms_setO 5 sc_law_ride.nd (mf_lst ml_nil)) (mss_cons (ms_for (vs := [4]) (passes_of rfl) rfl (mi_range1 (A.free 14) (ml_cons (me_bin om_add (ME.toB me_int) (ME.toB (me_bin om_mod (ME.toB (me_ix (ME.toB (me_var 0)) (ME.toB me_int))) (ME.toB (me_bi (cm_max2 rfl) (A.free 21) (by decide +kernel) (mlb_cons (ME.toB me_int) (mlb_cons (ME.toB (me_bin om_sub (ME.toB (me_var 2)) (ME.toB me_int))) mlb_nil))))))) ml_nil)) (mg_name 4 sc_law_ride.nd) (mss_cons (ms_set 7 sc_law_ride.nd (me_bin om_mod (ME.toB (me_ix (ME.toB (me_var 0)) (ME.toB (me_bin om_add (ME.toB me_int) (ME.toB (me_var 4)))))) (ME.toB (me_var 2)))) (mss_cons (ms_for (vs := [8]) (passes_of rfl) rfl (mi_range1 (A.free 14) (ml_cons (me_var 2) ml_nil)) (mg_name 8 sc_law_ride.nd) (mss_one (ms_if (mt_cmp om_in (ME.toB (me_var 7)) (mb_var 5)) (mss_one (ms_set 7 sc_law_ride.nd (me_bin om_mod (ME.toB (me_bin om_add (ME.toB (me_var 7)) (ME.toB me_int))) (ME.toB (me_var 2))))) mss_nil))) (mss_one (ms_lw 5 lw_append (ml_cons (me_var 7) ml_nil) (hpe := fun h h0 h1 => pe_bm PySem.F.plainAttrs_list PySem.F.slot_list_append PySem.F.type_list_append h h0 h1)))))) (mss_frz 3 (mss_frz 5 (mss_one (ms_ret (MF.toE (mf_lst (ml_cons (me_var 3) (ml_cons (me_bin om_add (ME.toB me_int) (ME.toB (me_bin om_mod (ME.toB (me_ix (ME.toB (me_var 0)) (ME.toB me_int))) (ME.toB me_int)))) (ml_cons (me_var 5) ml_nil))))))))))))))
  exact ⟨(He.fAd K ("_law_ride", none)), fd, ["draws", "most"], z, hg, hk, hb⟩
theorem sc_law_parts : FnScope ["count", "found", "block"] ["count"] (defScope s_law_parts) := ⟨rfl, rfl, rfl, by decide +kernel, rfl, by decide +kernel, by decide +kernel⟩
theorem at_law_parts (A : Wt fa fn xs K mg) (B : TBs K mg base) : FnAt P w K mg base (ct K) 1 "_law_parts" 1 m_law_parts := by
  obtain ⟨fd, F⟩ := A.def_ 15 (d := d_law_parts) rfl
  have F : FunD K "_law_parts" "_law_parts" (defArgs s_law_parts) (defBody s_law_parts) (defScope s_law_parts) [] [] (He.fAd K ("_law_parts", none)) fd := F
  have hb : Binds K fd ["count"] [] := binds_n F fun _ _ _ _ _ _ us hl => match us, hl with | [_], _ => rfl
  have hg : mg "_law_parts" = some (.ref (He.ga K "_law_parts")) := A.glo 39
  have hg : mg "_law_parts" = some (.ref (He.fAd K ("_law_parts", none))) := hg
  have hk := F.kp
  have z : FnOk P w K mg base (L2.CX P w) (0 + 1) (He.fAd K ("_law_parts", none)) fd ["count"] (spD K (ct K) 1 (runD 3 b_law_parts)) := by
    refine fn_ok (k := 0) (N := ["count", "found", "block"]) (n := 1) (m := b_law_parts) F sc_law_parts rfl fun cdv A0 outer s H E Fb hr => ?_
    exact (mss_cons (ms_set 1 sc_law_parts.nd (MF.toE (mf_lst ml_nil))) (mss_cons (ms_for (vs := [2]) (passes_of rfl) rfl (mi_range1 (A.free 14) (ml_cons (me_var 0) ml_nil)) (mg_name 2 sc_law_parts.nd) (mss_one (ms_set 1 sc_law_parts.nd (me_bin om_add (ME.toB (me_var 1)) (ME.toB (MF.toE (mf_lst (ml_cons (me_tup (ml_cons me_str (ml_cons (me_var 2) (ml_cons me_int ml_nil)))) (ml_cons (me_tup (ml_cons me_str (ml_cons (me_var 2) (ml_cons me_int ml_nil)))) ml_nil))))))))) (mss_cons (ms_set 1 sc_law_parts.nd (me_bin om_add (ME.toB (me_var 1)) (ME.toB (MF.toE (mf_lst (ml_cons (me_tup (ml_cons me_str (ml_cons me_int (ml_cons me_int ml_nil)))) (ml_cons (me_tup (ml_cons me_str (ml_cons me_int (ml_cons me_int ml_nil)))) ml_nil))))))) (mss_cons (ms_for (vs := [2]) (passes_of rfl) rfl (mi_range1 (A.free 14) (ml_cons (me_var 0) ml_nil)) (mg_name 2 sc_law_parts.nd) (mss_one (ms_set 1 sc_law_parts.nd (me_bin om_add (ME.toB (me_var 1)) (ME.toB (MF.toE (mf_lst (ml_cons (me_tup (ml_cons me_str (ml_cons (me_var 2) (ml_cons me_int ml_nil)))) (ml_cons (me_tup (ml_cons me_str (ml_cons (me_var 2) (ml_cons me_int ml_nil)))) ml_nil))))))))) (mss_one (ms_ret (me_var 1)))))))
  exact ⟨(He.fAd K ("_law_parts", none)), fd, ["count"], z, hg, hk, hb⟩
theorem sc_law_made : FnScope ["ways", "over", "trains"] ["ways", "over", "trains"] (defScope s_law_made) := ⟨rfl, rfl, rfl, by decide +kernel, rfl, by decide +kernel, by decide +kernel⟩
theorem at_law_made (A : Wt fa fn xs K mg) (B : TBs K mg base) : FnAt P w K mg base (ct K) 3 "_law_made" 3 m_law_made := by
  obtain ⟨fd, F⟩ := A.def_ 16 (d := d_law_made) rfl
  have F : FunD K "_law_made" "_law_made" (defArgs s_law_made) (defBody s_law_made) (defScope s_law_made) [] [] (He.fAd K ("_law_made", none)) fd := F
  have hb : Binds K fd ["ways", "over", "trains"] [] := binds_n F fun _ _ _ _ _ _ us hl => match us, hl with | [_, _, _], _ => rfl
  have hg : mg "_law_made" = some (.ref (He.ga K "_law_made")) := A.glo 40
  have hg : mg "_law_made" = some (.ref (He.fAd K ("_law_made", none))) := hg
  have hk := F.kp
  have z : FnOk P w K mg base (L2.CX P w) (2 + 1) (He.fAd K ("_law_made", none)) fd ["ways", "over", "trains"] (spD K (ct K) 3 (runD 3 b_law_made)) := by
    refine fn_ok (k := 2) (N := ["ways", "over", "trains"]) (n := 3) (m := b_law_made) F sc_law_made rfl fun cdv A0 outer s H E Fb hr => ?_
    exact (mss_cons (ms_try (cs := [4]) (c := 4) rfl rfl (A.glo 5) (fun c hc => by
      simp only [List.mem_cons, List.not_mem_nil, or_false] at hc
      subst hc
      exact A.exm 22) (fun pn xe po => (mss_one (ms_expr (me_make (at_ride_init A B) (hr.mono (by decide)) (ml_cons (me_var 0) (ml_cons (me_var 1) (ml_cons (me_var 2) ml_nil))) (len_cons (len_cons (len_cons len_nil))))))) (fun a pn => (mss_one (ms_ret me_bl)))) (mss_one (ms_ret me_bl)))
  exact ⟨(He.fAd K ("_law_made", none)), fd, ["ways", "over", "trains"], z, hg, hk, hb⟩
theorem sc_law : FnScope ["script", "draws", "count", "handed", "ride", "at", "great", "way", "wrong", "ways", "over", "trains", "block"] ["script"] (defScope s_law) := ⟨rfl, rfl, rfl, by decide +kernel, rfl, by decide +kernel, by decide +kernel⟩
theorem ok_law (A : Wt fa fn xs K mg) (B : TBs K mg base) {fd : FuncData} (F : FunD K "law" "law" (defArgs s_law) (defBody s_law) (defScope s_law) [] [] (He.fAd K ("law", none)) fd) : FnOk P w K mg base (L2.CX P w) 10 (He.fAd K ("law", none)) fd ["script"] (spD K (ct K) 1 (runD 13 b_law)) := by
  refine fn_ok (k := 9) (N := ["script", "draws", "count", "handed", "ride", "at", "great", "way", "wrong", "ways", "over", "trains", "block"]) (n := 1) (m := b_law) F sc_law rfl fun cdv A0 outer s H E Fb hr => ?_
  exact (mss_cons (ms_set 1 sc_law.nd (me_call (at_law_draws A B) (hr.mono (by decide)) (ml_cons (me_call (at_law_cell A B) (hr.mono (by decide)) (ml_cons (me_var 0) (ml_cons me_int ml_nil)) (len_cons (len_cons len_nil))) (ml_cons me_int ml_nil)) (len_cons (len_cons len_nil)))) (mss_cons (ms_asg (vs := [9, 10, 11]) (me_call (at_law_ride A B) (hr.mono (by decide)) (ml_cons (me_var 1) (ml_cons me_int ml_nil)) (len_cons (len_cons len_nil))) (mg_seq rfl (mgs_cons (mg_name 9 sc_law.nd) (mgs_cons (mg_name 10 sc_law.nd) (mgs_cons (mg_name 11 sc_law.nd) mgs_nil))) (glen_cons (glen_cons (glen_cons glen_nil))))) (mss_cons (ms_set 2 sc_law.nd (me_bi cm_len (A.free 0) (by decide +kernel) (mlb_cons (ME.toB (me_var 9)) mlb_nil))) (mss_hand 3 4 sc_law.nd (mf_bty cf_list (A.free 20) (by decide +kernel) (mlb_cons (ME.toB (me_var 9)) mlb_nil)) (mf_bty cf_list (A.free 20) (by decide +kernel) (mlb_cons (ME.toB (me_var 11)) mlb_nil)) (me_make (at_ride_init A B) (hr.mono (by decide)) (ml_cons (me_ix (ME.toB (me_var 3)) (ME.toB me_int)) (ml_cons (me_var 10) (ml_cons (me_ix (ME.toB (me_var 3)) (ME.toB me_int)) ml_nil))) (len_cons (len_cons (len_cons len_nil)))) (me_tup (ml_cons me_int (ml_cons me_int ml_nil))) me_int (mss_cons (ms_if (mt_not (mt_val (me_call (at_law_like A B 8) (hr.mono (by decide)) (ml_cons (MF.toE (mf_lst (ml_cons (me_fld 22 0 (A.cls 8) (A.noat 9) (me_var 4)) (ml_cons (me_fld 22 1 (A.cls 8) (A.noat 11) (me_var 4)) (ml_cons (me_fld 22 2 (A.cls 8) (A.noat 12) (me_var 4)) ml_nil))))) (ml_cons (MF.toE (mf_lst (ml_cons (me_bty cm_tup (A.free 10) (by decide +kernel) (mlb_cons (ME.toB (me_var 9)) mlb_nil)) (ml_cons (me_var 10) (ml_cons (me_bty cm_tup (A.free 10) (by decide +kernel) (mlb_cons (ME.toB (me_var 11)) mlb_nil)) ml_nil))))) ml_nil)) (len_cons (len_cons len_nil))))) (mss_one (ms_ret me_bl)) mss_nil) (mss_cons (ms_if (MW.toT (mw_or (mt_not (mt_val (me_call (at_law_like A B 8) (hr.mono (by decide)) (ml_cons (me_meth0 (at_ride_first A B) (A.cls 8) (hr.mono (by decide)) (me_var 4)) (ml_cons (me_tup (ml_cons (me_bty cm_tup (A.free 10) (by decide +kernel) (mlb_cons (ME.toB (MF.toE (mf_comp (own := [("block", 12)]) rfl sc_law.nd (MI.b (mi_seq (me_var 11))) (blkOk_by (by kernel_rfl)) (fun _ _ _ _ _ _ => (mg_name 12 sc_law.nd)) (fun _ _ _ _ _ _ => mts_nil) (fun _ _ _ _ _ _ => (me_tup (ml_cons me_str (ml_cons (me_var 12) (ml_cons me_int ml_nil)))))))) mlb_nil)) (ml_cons me_int (ml_cons me_non ml_nil)))) ml_nil)) (len_cons (len_cons len_nil))))) (mw_or1 (mt_not (mt_val (me_call (at_law_like A B 8) (hr.mono (by decide)) (ml_cons (me_meth0 (at_ride_parts A B) (A.cls 8) (hr.mono (by decide)) (me_var 4)) (ml_cons (me_call (at_law_parts A B) (hr.mono (by decide)) (ml_cons (me_var 2) ml_nil) (len_cons len_nil)) ml_nil)) (len_cons (len_cons len_nil)))))))) (mss_one (ms_ret me_bl)) mss_nil) (mss_cons (ms_set 5 sc_law.nd (me_bin om_mod (ME.toB (me_ix (ME.toB (me_var 1)) (ME.toB me_int))) (ME.toB (me_var 2)))) (mss_cons (ms_set 6 sc_law.nd (me_bin om_mod (ME.toB (me_bty cm_int (A.free 16) (by decide +kernel) (mlb_cons (ME.toB (me_call (at_law_cell A B) (hr.mono (by decide)) (ml_cons (me_var 0) (ml_cons me_int ml_nil)) (len_cons (len_cons len_nil)))) mlb_nil))) (ME.toB (me_bin om_pow (ME.toB me_int) (ME.toB me_int))))) (mss_cons (ms_for (vs := [7]) (passes_of rfl) rfl (mi_seq (MF.toE (mf_lst (ml_cons (me_tup (ml_cons me_int (ml_cons me_int ml_nil))) (ml_cons (me_tup (ml_cons me_int (ml_cons me_int ml_nil))) (ml_cons (me_tup (ml_cons me_int (ml_cons (me_bin om_add (ME.toB me_int) (ME.toB (me_var 6))) ml_nil))) (ml_cons (me_tup (ml_cons (me_bin om_sub (ME.toB me_int) (ME.toB (me_var 6))) (ml_cons me_int ml_nil))) (ml_cons (me_tup (ml_cons me_int (ml_cons me_int ml_nil))) ml_nil)))))))) (mg_name 7 sc_law.nd) (mss_one (ms_if (mt_val (me_call (at_law_made A B) (hr.mono (by decide)) (ml_cons (me_bin om_add (ME.toB (me_bin om_add (ME.toB (me_slice (ME.toB (me_var 9)) mo_none (mo_some (ME.toB (me_var 5))))) (ME.toB (MF.toE (mf_lst (ml_cons (me_var 7) ml_nil)))))) (ME.toB (me_slice (ME.toB (me_var 9)) (mo_some (ME.toB (me_bin om_add (ME.toB (me_var 5)) (ME.toB me_int)))) mo_none))) (ml_cons (me_var 10) (ml_cons (me_var 11) ml_nil))) (len_cons (len_cons (len_cons len_nil))))) (mss_one (ms_ret me_bl)) mss_nil))) (mss_cons (ms_for (vs := [8]) (passes_of rfl) rfl (mi_seq (MF.toE (mf_lst (ml_cons (MF.toE (mf_lst ml_nil)) (ml_cons (me_bin om_add (ME.toB (me_var 11)) (ME.toB (me_slice (ME.toB (me_var 11)) mo_none (mo_some (ME.toB me_int))))) (ml_cons (MF.toE (mf_listRg (A.free 20) (A.free 14) (me_var 2))) (ml_cons (me_bin om_add (ME.toB (me_slice (ME.toB (me_var 11)) (mo_some (ME.toB me_int)) mo_none)) (ME.toB (MF.toE (mf_lst (ml_cons (me_bin om_add (ME.toB (me_var 2)) (ME.toB (me_var 6))) ml_nil))))) (ml_cons (me_bin om_add (ME.toB (me_slice (ME.toB (me_var 11)) (mo_some (ME.toB me_int)) mo_none)) (ME.toB (MF.toE (mf_lst (ml_cons (me_bin om_sub (ME.toB (me_neg (ME.toB me_int))) (ME.toB (me_var 6))) ml_nil))))) ml_nil)))))))) (mg_name 8 sc_law.nd) (mss_one (ms_if (mt_val (me_call (at_law_made A B) (hr.mono (by decide)) (ml_cons (me_var 9) (ml_cons (me_var 10) (ml_cons (me_var 8) ml_nil))) (len_cons (len_cons (len_cons len_nil))))) (mss_one (ms_ret me_bl)) mss_nil))) (mss_cons (ms_if (MW.toT (mw_or (mt_val (me_call (at_law_made A B) (hr.mono (by decide)) (ml_cons (me_var 9) (ml_cons (me_bin om_sub (ME.toB me_int) (ME.toB (me_var 6))) (ml_cons (me_var 11) ml_nil))) (len_cons (len_cons (len_cons len_nil))))) (mw_or (mt_val (me_call (at_law_made A B) (hr.mono (by decide)) (ml_cons (me_var 9) (ml_cons (me_bin om_add (ME.toB me_int) (ME.toB (me_var 6))) (ml_cons (me_var 11) ml_nil))) (len_cons (len_cons (len_cons len_nil))))) (mw_or (mt_val (me_call (at_law_made A B) (hr.mono (by decide)) (ml_cons (MF.toE (mf_lst (ml_cons (me_tup (ml_cons me_int (ml_cons me_int ml_nil))) ml_nil))) (ml_cons me_int (ml_cons (MF.toE (mf_lst (ml_cons me_int ml_nil))) ml_nil))) (len_cons (len_cons (len_cons len_nil))))) (mw_or1 (mt_val (me_call (at_law_made A B) (hr.mono (by decide)) (ml_cons (me_bin om_mul (ME.toB (MF.toE (mf_lst (ml_cons (me_tup (ml_cons me_int (ml_cons me_int ml_nil))) ml_nil)))) (ME.toB me_int)) (ml_cons me_int (ml_cons (MF.toE (mf_lst (ml_cons me_int ml_nil))) ml_nil))) (len_cons (len_cons (len_cons len_nil)))))))))) (mss_one (ms_ret me_bl)) mss_nil) (mss_one (ms_ret (me_and (me_call (at_law_made A B) (hr.mono (by decide)) (ml_cons (me_bin om_mul (ME.toB (MF.toE (mf_lst (ml_cons (me_tup (ml_cons me_int (ml_cons me_int ml_nil))) ml_nil)))) (ME.toB me_int)) (ml_cons me_int (ml_cons (MF.toE (mf_listRg (A.free 20) (A.free 14) me_int)) ml_nil))) (len_cons (len_cons (len_cons len_nil)))) (me_one (me_call (at_law_made A B) (hr.mono (by decide)) (ml_cons (MF.toE (mf_lst (ml_cons (me_tup (ml_cons me_int (ml_cons me_int ml_nil))) (ml_cons (me_tup (ml_cons me_int (ml_cons me_int ml_nil))) ml_nil)))) (ml_cons me_int (ml_cons (MF.toE (mf_lst (ml_cons (me_bin om_mod (ME.toB (me_var 5)) (ME.toB me_int)) ml_nil))) ml_nil))) (len_cons (len_cons (len_cons len_nil))))))))))))))) (fun h h0 h1 => pe_bm PySem.F.plainAttrs_list PySem.F.slot_list_append PySem.F.type_list_append h h0 h1) (fun h h0 h1 => pe_bm PySem.F.plainAttrs_list PySem.F.slot_list_append PySem.F.type_list_append h h0 h1)))))
theorem facts {f : Addr} (A : Wt fa fn xs K mg) (hfa : mg "law" = some (.ref f)) : ∃ fd : FuncData, (∀ (s : Shared) (v : Value), BindsTo s fd ⟨[v], []⟩ [("script", v)]) ∧ ∀ base : Heap, TBs K mg base → FnOk P w K mg base CXN 10 f fd ["script"] (noE (spD K (ct K) 1 m_law)) := by
  obtain ⟨fd, F⟩ := A.def_ 17 (d := d_law) rfl
  have F : FunD K "law" "law" (defArgs s_law) (defBody s_law) (defScope s_law) [] [] (He.fAd K ("law", none)) fd := F
  have hg : mg "law" = some (.ref (He.ga K "law")) := A.glo 41
  have hg : mg "law" = some (.ref (He.fAd K ("law", none))) := hg
  have e : f = (He.fAd K ("law", none)) := by
    have e := hfa.symm.trans hg
    injection e with e
    injection e with e
  subst e
  have b := FunD.bindsA (ps := ["script"]) F fun _ _ _ _ _ _ us hl => match us, hl with | [_], _ => rfl
  exact ⟨fd, fun s v => b s [v] rfl, fun base B => fn_no (ok_law A B F)⟩
end
abbrev R : PySem.W.OpenRow := PySem.W.OpenLaw.row PySem.Challenge.rw_coastersafe_k17_rides
abbrev hk : PySem.W.Hook := He.hookX 5 fa fn [] tfl (exB xs)
def ob (s : PySem.W.SharedT) : He.AlX := He.obsX 5 fa fn [] tfl (exB xs) (HandSHeadRun.getT s)
theorem ob_eq (s : PySem.W.SharedT) : ob s = hk.obs s.abs := He.obsX_eq (HandSHeadRun.getT_eq s)
def loose : List PySem.Str := (["_wall", "CoasterError", "InvalidRide", "MOST_BLOCKS", "MOST_AGE", "MOST_OVER", "HELD", "Ride", "_law_cell", "_law_draws", "_law_like", "_law_ride", "_law_parts", "_law_made"] : List PySem.Str)
theorem runRow (w : World) : HandSHeadRun.RunEq R (PySem.W.view R.prog [17]) hk ob 20000 loose w := by
  intro os
  kernel_rfl
end Cr
open PySem PySem.W PySem.Calls PyProof.Rows
theorem Cr.finish (hlaw : ∀ ns : List Int, ns.length ≤ 63 → Cr.m_law [.scr ns] = .ok (.bl true)) : PySem.Challenge.rw_coastersafe_k17_rides.Holds := by
  w_on; o_law
  refine HandSHeadRun.head_any (r := OpenLaw.row PySem.Challenge.rw_coastersafe_k17_rides) (q := view (OpenLaw.row PySem.Challenge.rw_coastersafe_k17_rides).prog [17]) (H := Cr.hk) (ob := Cr.ob) (M := 20000) (loose := Cr.loose) (d := HandSHeadRun.topDef (OpenLaw.row PySem.Challenge.rw_coastersafe_k17_rides).prog 17) (kwd := []) Cr.ob_eq
    (by kernel_rfl) (fun s => by kernel_rfl) Cr.runRow (by kernel_rfl) (by kernel_rfl) (by kernel_rfl) (by rfl) (by first | assumption | decide +kernel) (by decide +kernel) ⟨rfl, rfl, rfl, rfl, rfl, by decide +kernel⟩ ?hw ?hc
  case hw => w_witness2
  case hc =>
    refine LamX.walk_ofTsE (l := PySem.Challenge.rw_coastersafe_k17_rides) (n := 63) (k := 10) (x := "script") (CX := fun _ => Cr.CXN) rfl (by decide) (by kernel_rfl) ⟨rfl, by decide, by decide⟩ ?F (fun _ _ _ _ _ z => z)
    intro w mg fa h Y G hmg0
    obtain ⟨K, KX, c⟩ := Y
    have hmg : mg ("law" : PySem.Str) = some (.ref fa) := by
      have e : (HandSHeadRun.topDef (OpenLaw.row PySem.Challenge.rw_coastersafe_k17_rides).prog 17).name = ("law" : PySem.Str) := by kernel_rfl
      rw [← e]
      exact hmg0
    have A : Cr.Wt Cr.fa Cr.fn Cr.xs K mg := ⟨⟨h, KX, G⟩, Cr.saysX_of c⟩
    obtain ⟨fd, hb, hF⟩ := Cr.facts (P := (PySem.Challenge.rw_coastersafe_k17_rides).prog) (w := w) A hmg
    exact ⟨K, KX, fd, Cr.tfl.map (He.cT K), Cr.noE (Cr.spD K (Cr.ct K) 1 Cr.m_law), (fun p hp => by obtain ⟨q, hq, rfl⟩ := List.mem_map.mp hp; exact c.empty q hq), (fun p hp => by obtain ⟨q, hq, rfl⟩ := List.mem_map.mp hp; exact c.out q hq), (fun p hp => by obtain ⟨q, hq, rfl⟩ := List.mem_map.mp hp; exact PySem.W.codeHd_of_K KX (c.hd q hq)), hb, fun H a ns hl _ hH hS => Cr.law_sp hlaw H a ns hl (Cr.tabG_of hH) hS, fun base _ _ hB => hF base (Cr.tabB_of hB)⟩
open PySem PySem.Spec PyProof.Rows
theorem PySem.Challenge.cw_coastersafe_k17_rides_holds : PySem.Challenge.rw_coastersafe_k17_rides.Holds := by
  exact Cr.finish fun ns _ => Cr.fin_of (Cr.r_law ⟨ns⟩) (Cr.k17_law ns)
