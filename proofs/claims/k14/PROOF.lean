import PyProof.Rows.All
import Wide.All
import OpenK.AllK
import Wide.FinOn
import PySem.Challenge.RW_landtogether_k14_whole_covers_of_words_t
import HandS.ForMost
import HandS.Walk
import HandS.Wide
import HandS.TupAny
import HandS.Deep
import HandS.Conv
import HandS.Flow
import HandS.IsInst
import HandS.SortInts
import HandS.Replace
import HandS.WideBits
import HandS.TupMul
import HandS.Defaults
import HandS.Style
import HandS.DictComp
import KE.GoesNew
import HandS.Rev
import HandS.Dict
import PyProof.ReprRoads
import PyProof.ReprLen
import HandS.Call
import HandS.HeadEnd
import HandS.Ends
import HandS.HeadHook1
import HandS.HeadHook2
import HandS.More
import HandS.Words
import HandS.WordsExc
import HandS.Head0
import HandS.Head1
import HandS.Head2
set_option Elab.async false
set_option linter.all false
set_option maxRecDepth 100000
/-! PL, part a: values, representation, the frame's invariant, steps. -/
namespace PL
open PySem PySem.Spec PyProof.Rows L2

/-- Python data without addresses -/
inductive PV where
  | non | bl (b : Bool) | int (i : Int) | str (x : List Nat) | tup (xs : List PV) | lst (xs : List PV) | dct (kvs : List (PV × PV)) | dcT (kvs : List (PV × PV))
  | hand | scr (ns : List Int)

def keyP : Key → PV
  | .inl i => .int i
  | .inr x => .str x.cps.toList

mutual
inductive Rp (K : PySem.W.Frag) (hd : Option Addr) (F : Hp) : V → PV → Prop
  | non : Rp K hd F .non .non
  | bl (b : Bool) : Rp K hd F (.bl b) (.bl b)
  | int (i : Int) : Rp K hd F (.int i) (.int i)
  | str (x : Str) : Rp K hd F (.str x) (.str x.cps.toList)
  | tup {a : Addr} {vs : List V} {ps : List PV} : F a = some (.tup vs) → RpL K hd F vs ps → Rp K hd F (.ref a) (.tup ps)
  | lst {a : Addr} {vs : List V} {ps : List PV} : F a = some (.lst vs) → RpL K hd F vs ps → Rp K hd F (.ref a) (.lst ps)
  | dct {a : Addr} {kvs : List (Key × V)} {ps : List (PV × PV)} : F a = some (.dK kvs) → RpD K hd F kvs ps → Rp K hd F (.ref a) (.dct ps)
  | dctT {a : Addr} {kvs : List (List Key × V)} {ps : List (PV × PV)} : F a = some (.dT kvs) → RpT K hd F kvs ps → Rp K hd F (.ref a) (.dcT ps)
  | hand {a : Addr} : hd = some a → Rp K hd F (.ref a) .hand
  | scr {a : Addr} {ns : List Int} : SqL K F a (ns.map V.int) → Rp K hd F (.ref a) (.scr ns)
inductive RpL (K : PySem.W.Frag) (hd : Option Addr) (F : Hp) : List V → List PV → Prop
  | nil : RpL K hd F [] []
  | cons {v : V} {p : PV} {vs : List V} {ps : List PV} : Rp K hd F v p → RpL K hd F vs ps → RpL K hd F (v :: vs) (p :: ps)
inductive RpD (K : PySem.W.Frag) (hd : Option Addr) (F : Hp) : List (Key × V) → List (PV × PV) → Prop
  | nil : RpD K hd F [] []
  | cons {k : Key} {v : V} {p : PV} {vs : List (Key × V)} {ps : List (PV × PV)} : Rp K hd F v p → RpD K hd F vs ps → RpD K hd F ((k, v) :: vs) ((keyP k, p) :: ps)
inductive RpT (K : PySem.W.Frag) (hd : Option Addr) (F : Hp) : List (List Key × V) → List (PV × PV) → Prop
  | nil : RpT K hd F [] []
  | cons {k : List Key} {v : V} {p : PV} {vs : List (List Key × V)} {ps : List (PV × PV)} : Rp K hd F v p → RpT K hd F vs ps → RpT K hd F ((k, v) :: vs) ((.tup (k.map keyP), p) :: ps)
end

/-- F is part of H -/
def Sub (F H : Hp) : Prop := ∀ b o, F b = some o → H b = some o
theorem Sub.refl (F : Hp) : Sub F F := fun _ _ h => h
theorem Sub.trans {F G H : Hp} (a : Sub F G) (b : Sub G H) : Sub F H := fun x o h => b x o (a x o h)
theorem Sub.rd {F H : Hp} {a : Addr} {u : HO} (e : Sub F H) (h : Rd F a u) : Rd H a u := by
  rcases h with h | ⟨o, h⟩
  · exact Or.inl (e a _ h)
  · exact Or.inr ⟨o, e a _ h⟩
theorem Sub.sqL {K : PySem.W.Frag} {F H : Hp} {a : Addr} {xs : List V} (e : Sub F H) (h : SqL K F a xs) : SqL K H a xs := by
  rcases h with h | h
  · exact Or.inl (e.rd h)
  · exact Or.inr h
theorem Sub.sqT {K : PySem.W.Frag} {F H : Hp} {a : Addr} {xs : List V} (e : Sub F H) (h : SqT K F a xs) : SqT K H a xs := by
  rcases h with h | h
  · exact Or.inl (e.rd h)
  · exact Or.inr h
theorem Sub.uR {F H : Hp} {a : Addr} {o : HO} (e : Sub F H) (n : F a = none) : Sub F (L2.upd H a o) := fun b u h => by
  rw [upd_ne (ne_of_none h n)]
  exact e b u h
theorem Sub.new {H : Hp} {p : Addr} {o : HO} (h : H p = none) : Sub H (upd H p o) := (Sub.refl H).uR h
theorem Sub.both {F H : Hp} {a : Addr} {o : HO} (e : Sub F H) : Sub (L2.upd F a o) (L2.upd H a o) := fun b u h => by
  by_cases hb : b = a
  · subst hb; rw [upd_same] at h ⊢; exact h
  · rw [upd_ne hb] at h ⊢; exact e b u h

section
variable {K : PySem.W.Frag} {hd : Option Addr} {F F' : Hp}
mutual
theorem Rp.mono (e : Sub F F') : ∀ {v : V} {p : PV}, Rp K hd F v p → Rp K hd F' v p
  | _, _, .non => .non
  | _, _, .bl b => .bl b
  | _, _, .int i => .int i
  | _, _, .str x => .str x
  | _, _, .tup h l => .tup (e _ _ h) (RpL.mono e l)
  | _, _, .lst h l => .lst (e _ _ h) (RpL.mono e l)
  | _, _, .dct h l => .dct (e _ _ h) (RpD.mono e l)
  | _, _, .dctT h l => .dctT (e _ _ h) (RpT.mono e l)
  | _, _, .hand h => .hand h
  | _, _, .scr h => .scr (e.sqL h)
theorem RpL.mono (e : Sub F F') : ∀ {vs : List V} {ps : List PV}, RpL K hd F vs ps → RpL K hd F' vs ps
  | _, _, .nil => .nil
  | _, _, .cons a b => .cons (Rp.mono e a) (RpL.mono e b)
theorem RpD.mono (e : Sub F F') : ∀ {vs : List (Key × V)} {ps : List (PV × PV)}, RpD K hd F vs ps → RpD K hd F' vs ps
  | _, _, .nil => .nil
  | _, _, .cons a b => .cons (Rp.mono e a) (RpD.mono e b)
theorem RpT.mono (e : Sub F F') : ∀ {vs : List (List Key × V)} {ps : List (PV × PV)}, RpT K hd F vs ps → RpT K hd F' vs ps
  | _, _, .nil => .nil
  | _, _, .cons a b => .cons (Rp.mono e a) (RpT.mono e b)
end
theorem RpL.length : ∀ {vs : List V} {ps : List PV}, RpL K hd F vs ps → vs.length = ps.length
  | _, _, .nil => rfl
  | _, _, .cons _ b => by simp [RpL.length b]
theorem RpL.append : ∀ {vs ws : List V} {ps qs : List PV}, RpL K hd F vs ps → RpL K hd F ws qs → RpL K hd F (vs ++ ws) (ps ++ qs)
  | _, _, _, _, .nil, h => h
  | _, _, _, _, .cons a b, h => .cons a (RpL.append b h)
theorem RpL.get : ∀ {vs : List V} {ps : List PV} {i : Nat} {p : PV}, RpL K hd F vs ps → ps[i]? = some p → ∃ v, vs[i]? = some v ∧ Rp K hd F v p
  | _, _, _, _, .nil, h => by simp at h
  | _, _, 0, p, .cons a b, h => by simp at h; subst h; exact ⟨_, rfl, a⟩
  | _, _, i + 1, p, .cons a b, h => by
    obtain ⟨v, h1, h2⟩ := RpL.get (i := i) (p := p) b (by simpa using h)
    exact ⟨v, by simpa using h1, h2⟩
theorem RpL.get' : ∀ {vs : List V} {ps : List PV} {i : Nat} {v : V}, RpL K hd F vs ps → vs[i]? = some v → ∃ p, ps[i]? = some p ∧ Rp K hd F v p
  | _, _, _, _, .nil, h => by simp at h
  | _, _, 0, p, .cons a b, h => by simp at h; subst h; exact ⟨_, rfl, a⟩
  | _, _, i + 1, p, .cons a b, h => by
    obtain ⟨v, h1, h2⟩ := RpL.get' (i := i) (v := p) b (by simpa using h)
    exact ⟨v, by simpa using h1, h2⟩
theorem RpL.take : ∀ {vs : List V} {ps : List PV} (n : Nat), RpL K hd F vs ps → RpL K hd F (vs.take n) (ps.take n)
  | _, _, 0, _ => by simp; exact .nil
  | _, _, _ + 1, .nil => by simp; exact .nil
  | _, _, n + 1, .cons a b => by simp; exact .cons a (RpL.take n b)
theorem RpL.drop : ∀ {vs : List V} {ps : List PV} (n : Nat), RpL K hd F vs ps → RpL K hd F (vs.drop n) (ps.drop n)
  | _, _, 0, h => by simpa using h
  | _, _, _ + 1, .nil => by simp; exact .nil
  | _, _, n + 1, .cons a b => by simp; exact RpL.drop n b
theorem RpL.set : ∀ {vs : List V} {ps : List PV} {v : V} {p : PV} (n : Nat), RpL K hd F vs ps → Rp K hd F v p → RpL K hd F (vs.set n v) (ps.set n p)
  | _, _, _, _, _, .nil, _ => .nil
  | _, _, _, _, 0, .cons a b, h => .cons h b
  | _, _, _, _, n + 1, .cons a b, h => .cons a (RpL.set n b h)
theorem RpL.reverse : ∀ {vs : List V} {ps : List PV}, RpL K hd F vs ps → RpL K hd F vs.reverse ps.reverse
  | _, _, .nil => .nil
  | _, _, .cons a b => by
    rw [List.reverse_cons, List.reverse_cons]
    exact (RpL.reverse b).append (.cons a .nil)
theorem RpL.ints : ∀ (ns : List Int), RpL K hd F (ns.map V.int) (ns.map PV.int)
  | [] => .nil
  | n :: ns => .cons (.int n) (RpL.ints ns)
end

/-- an object that represents data -/
def ObRep (K : PySem.W.Frag) (hd : Option Addr) (F : Hp) : HO → PV → Prop
  | .lst vs, .lst ps => RpL K hd F vs ps
  | .dK kvs, .dct ps => RpD K hd F kvs ps
  | .dT kvs, .dcT ps => RpT K hd F kvs ps
  | _, _ => False
section
variable {K : PySem.W.Frag} {hd : Option Addr} {F F' H : Hp} {a : Addr} {o : HO} {p : PV} {ps : List PV}
theorem ObRep.mono (e : Sub F F') (h : ObRep K hd F o p) : ObRep K hd F' o p := by
  cases o <;> cases p <;> first | exact False.elim h | exact RpL.mono e h | exact RpD.mono e h | exact RpT.mono e h
theorem ObRep.rp (e : F a = some o) (h : ObRep K hd F o p) : Rp K hd F (.ref a) p := by
  cases o <;> cases p <;> first | exact False.elim h | exact .lst e h | exact .dct e h | exact .dctT e h
theorem ObRep.lst_inv (h : ObRep K hd F o (.lst ps)) : ∃ vs, o = .lst vs ∧ RpL K hd F vs ps := by
  cases o <;> first | exact False.elim h | exact ⟨_, rfl, h⟩
end

abbrev HS := List PV
/-- the hand: one list that defs change, known by its address -/
def HandOk (K : PySem.W.Frag) (hd : Option Addr) (F H : Hp) (hs : HS) : Prop := ∀ h, hd = some h → ∃ vs, H h = some (.lst vs) ∧ F h = none ∧ RpL K hd F vs hs

/-- from (F, H) to (F', H'): what stood stands (but the hand), the frozen part grows by new objects only -/
structure Step (hd : Option Addr) (F H F' H' : Hp) : Prop where
  ext : ∀ b o, H b = some o → some b ≠ hd → H' b = some o
  hdk : ∀ h, hd = some h → H h ≠ none → H' h ≠ none
  mono : Sub F F'
  sub : Sub F' H'
  old : ∀ b, H b ≠ none → F' b = F b
section
variable {K : PySem.W.Frag} {hd : Option Addr} {F H F1 H1 F2 H2 : Hp} {hs : HS}
theorem Step.refl (e : Sub F H) : Step hd F H F H := ⟨fun _ _ h _ => h, fun _ _ h => h, Sub.refl F, e, fun _ _ => rfl⟩
theorem Step.keeps (s : Step hd F H F1 H1) {b : Addr} (h : H b ≠ none) : H1 b ≠ none := by
  by_cases e : some b = hd
  · exact s.hdk b e.symm h
  · cases q : H b with
    | none => exact absurd q h
    | some o => rw [s.ext b o q e]; exact fun z => nomatch z
theorem Step.trans (s : Step hd F H F1 H1) (t : Step hd F1 H1 F2 H2) : Step hd F H F2 H2 :=
  ⟨fun b o h e => t.ext b o (s.ext b o h e) e, fun h e n => t.hdk h e (s.hdk h e n), s.mono.trans t.mono, t.sub, fun b h => (t.old b (s.keeps h)).trans (s.old b h)⟩
theorem Step.free (s : Step hd F H F1 H1) {b : Addr} (h : H1 b = none) : H b = none := by
  cases q : H b with
  | none => rfl
  | some o => exact absurd h (s.keeps (by rw [q]; exact fun z => nomatch z))
/-- nothing changed at all is also a step beside the hand -/
theorem Step.wide (s : Step none F H F1 H1) (hd : Option Addr) : Step hd F H F1 H1 :=
  ⟨fun b o h _ => s.ext b o h (fun z => nomatch z), fun h _ n => by
    cases q : H h with
    | none => exact absurd q n
    | some o => (rw [s.ext h o q (fun z => nomatch z)]; exact fun z => nomatch z), s.mono, s.sub, s.old⟩
theorem Step.hand (s : Step none F H F1 H1) (h : HandOk K hd F H hs) : HandOk K hd F1 H1 hs := fun a e => by
  obtain ⟨vs, h1, h2, h3⟩ := h a e
  exact ⟨vs, s.ext a _ h1 (fun z => nomatch z), (s.old a (by rw [h1]; exact fun z => nomatch z)).trans h2, h3.mono s.mono⟩
/-- a new object, not frozen -/
theorem Step.new {p : Addr} {o : HO} (e : Sub F H) (n : H p = none) : Step hd F H F (upd H p o) :=
  ⟨fun b u h _ => by rw [upd_ne (ne_of_none h n)]; exact h, fun h _ q => by rw [upd_ne (fun z => q (by rw [z]; exact n))]; exact q, Sub.refl F, fun b u h => by rw [upd_ne (ne_of_none (e b u h) n)]; exact e b u h, fun _ _ => rfl⟩
theorem Sub.none {p : Addr} (e : Sub F H) (n : H p = none) : F p = none := by
  cases q : F p with
  | none => rfl
  | some o => rw [e p o q] at n; cases n
/-- a new object, frozen at once -/
theorem Step.newF {p : Addr} {o : HO} (e : Sub F H) (n : H p = none) : Step hd F H (upd F p o) (upd H p o) :=
  ⟨(Step.new (hd := hd) e n).ext, (Step.new (hd := hd) e n).hdk, Sub.new (e.none n), e.both, fun b h => by rw [upd_ne (fun z => h (by rw [z]; exact n))]⟩
/-- an object that is new since F, H is frozen -/
theorem Step.freeze {p : Addr} {o : HO} (s : Step hd F H F1 H1) (n : H p = none) (h : H1 p = some o) (hf : F1 p = none) : Step hd F H (upd F1 p o) H1 :=
  ⟨s.ext, s.hdk, s.mono.trans (Sub.new hf), fun b u q => by
    by_cases e : b = p
    · subst e; rw [upd_same] at q; rw [h]; exact q
    · rw [upd_ne e] at q; exact s.sub b u q, fun b q => by rw [upd_ne (fun z => q (by rw [z]; exact n))]; exact s.old b q⟩
end

/-- a slot's content: a value (frozen); an object that this slot alone knows -/
inductive SV where
  | val (p : PV) | own (p : PV)
abbrev Rho := List (Option SV)

/-- the frame's constants -/
structure Fc where
  K : PySem.W.Frag
  hd : Option Addr
  F0 : Hp
  H0 : Hp
def SlotOk (c : Fc) (F H : Hp) (v : V) : SV → Prop
  | .val p => Rp c.K c.hd F v p
  | .own p => ∃ a o, v = .ref a ∧ H a = some o ∧ F a = none ∧ c.H0 a = none ∧ some a ≠ c.hd ∧ ObRep c.K c.hd F o p

structure G (c : Fc) (F H : Hp) (σ : L2.St) (ρ : Rho) (hs : HS) : Prop where
  st : Step c.hd c.F0 c.H0 F H
  len : σ.length = ρ.length
  slot : ∀ (i : Nat) (s : SV), ρ[i]? = some (some s) → ∃ v, σ[i]? = some (some v) ∧ SlotOk c F H v s
  sep : ∀ (i j : Nat) (p q : PV) (a : Addr), i ≠ j → ρ[i]? = some (some (.own p)) → ρ[j]? = some (some (.own q)) → σ[i]? = some (some (.ref a)) → σ[j]? ≠ some (some (.ref a))
  hand : HandOk c.K c.hd F H hs

section
variable {c : Fc} {F H F' H' : Hp} {σ : L2.St} {ρ : Rho} {hs hs' : HS}
theorem SlotOk.step {v : V} {s : SV} (t : Step c.hd F H F' H') (h : SlotOk c F H v s) : SlotOk c F' H' v s := by
  cases s with
  | val p => exact Rp.mono t.mono h
  | own p =>
    obtain ⟨a, o, e, h1, h2, h3, h4, h5⟩ := h
    exact ⟨a, o, e, t.ext a o h1 h4, (t.old a (by rw [h1]; exact fun z => nomatch z)).trans h2, h3, h4, h5.mono t.mono⟩
theorem G.step (g : G c F H σ ρ hs) (t : Step c.hd F H F' H') (h : HandOk c.K c.hd F' H' hs') : G c F' H' σ ρ hs' :=
  ⟨g.st.trans t, g.len, fun i s e => by
    obtain ⟨v, h1, h2⟩ := g.slot i s e
    exact ⟨v, h1, h2.step t⟩, g.sep, h⟩
theorem G.pure (g : G c F H σ ρ hs) (t : Step none F H F' H') : G c F' H' σ ρ hs := g.step (t.wide _) (t.hand g.hand)
theorem G.sub (g : G c F H σ ρ hs) : Sub F H := g.st.sub
end

/-! ### modes of a result -/
inductive Md where
  | fz | bw | fr
def RpM (md : Md) (K : PySem.W.Frag) (hd : Option Addr) (He F H : Hp) (v : V) (p : PV) : Prop :=
  match md with
  | .fz => Rp K hd F v p
  | .bw => Rp K hd F v p ∨ ∃ a o, v = .ref a ∧ H a = some o ∧ F a = none ∧ some a ≠ hd ∧ ObRep K hd F o p
  | .fr => ∃ a o, v = .ref a ∧ He a = none ∧ H a = some o ∧ F a = none ∧ some a ≠ hd ∧ ObRep K hd F o p
/-- readable now -/
abbrev RpB (K : PySem.W.Frag) (hd : Option Addr) (F H : Hp) (v : V) (p : PV) : Prop := RpM .bw K hd H F H v p
section
variable {K : PySem.W.Frag} {hd : Option Addr} {He F H F' H' : Hp} {v : V} {p : PV} {md : Md}
theorem RpM.bw (h : RpM md K hd He F H v p) : RpB K hd F H v p := by
  cases md with
  | fz => exact .inl h
  | bw => exact h
  | fr => obtain ⟨a, o, e, h1, h2, h3, h4, h5⟩ := h; exact .inr ⟨a, o, e, h2, h3, h4, h5⟩
theorem RpM.step (t : Step hd F H F' H') (h : RpM md K hd He F H v p) : RpM md K hd He F' H' v p := by
  cases md with
  | fz => exact Rp.mono t.mono h
  | bw =>
    rcases h with h | ⟨a, o, e, h1, h2, h3, h4⟩
    · exact .inl (Rp.mono t.mono h)
    · exact .inr ⟨a, o, e, t.ext a o h1 h3, (t.old a (by rw [h1]; exact fun z => nomatch z)).trans h2, h3, h4.mono t.mono⟩
  | fr =>
    obtain ⟨a, o, e, h0, h1, h2, h3, h4⟩ := h
    exact ⟨a, o, e, h0, t.ext a o h1 h3, (t.old a (by rw [h1]; exact fun z => nomatch z)).trans h2, h3, h4.mono t.mono⟩
theorem RpB.int {i : Int} (h : RpB K hd F H v (.int i)) : v = .int i := by
  rcases h with h | ⟨a, o, e, h1, h2, h3, h4⟩
  · cases h; rfl
  · cases o <;> exact False.elim h4
theorem RpB.bl {b : Bool} (h : RpB K hd F H v (.bl b)) : v = .bl b := by
  rcases h with h | ⟨a, o, e, h1, h2, h3, h4⟩
  · cases h; rfl
  · cases o <;> exact False.elim h4
theorem RpB.non (h : RpB K hd F H v .non) : v = .non := by
  rcases h with h | ⟨a, o, e, h1, h2, h3, h4⟩
  · cases h; rfl
  · cases o <;> exact False.elim h4
theorem RpB.str {x : List Nat} (h : RpB K hd F H v (.str x)) : ∃ z : Str, v = .str z ∧ z.cps.toList = x := by
  rcases h with h | ⟨a, o, e, h1, h2, h3, h4⟩
  · cases h; exact ⟨_, rfl, rfl⟩
  · cases o <;> exact False.elim h4
theorem RpB.tup {ps : List PV} (h : RpB K hd F H v (.tup ps)) : ∃ a vs, v = .ref a ∧ F a = some (.tup vs) ∧ RpL K hd F vs ps := by
  rcases h with h | ⟨a, o, e, h1, h2, h3, h4⟩
  · cases h with
    | tup h l => exact ⟨_, _, rfl, h, l⟩
  · cases o <;> exact False.elim h4
theorem RpB.lst {ps : List PV} (s : Sub F H) (h : RpB K hd F H v (.lst ps)) : ∃ a vs, v = .ref a ∧ H a = some (.lst vs) ∧ RpL K hd F vs ps := by
  rcases h with h | ⟨a, o, e, h1, h2, h3, h4⟩
  · cases h with
    | lst h l => exact ⟨_, _, rfl, s _ _ h, l⟩
  · obtain ⟨vs, rfl, l⟩ := h4.lst_inv
    exact ⟨a, vs, e, h1, l⟩
theorem RpB.scr {ns : List Int} (s : Sub F H) (h : RpB K hd F H v (.scr ns)) : ∃ a, v = .ref a ∧ SqL K F a (ns.map V.int) := by
  rcases h with h | ⟨a, o, e, h1, h2, h3, h4⟩
  · cases h with
    | scr h => exact ⟨_, rfl, h⟩
  · cases o <;> exact False.elim h4
theorem RpB.hand (h : RpB K hd F H v .hand) : ∃ a, v = .ref a ∧ hd = some a := by
  rcases h with h | ⟨a, o, e, h1, h2, h3, h4⟩
  · cases h with
    | hand h => exact ⟨_, rfl, h⟩
  · cases o <;> exact False.elim h4
end

/-! ### denotations -/
abbrev DE := Rho → HS → Option (PV × HS)
abbrev DT := Rho → HS → Option (Bool × HS)
abbrev DA := Rho → HS → Option (List PV × HS)
inductive Out where
  | nx (ρ : Rho) (hs : HS) | ret (p : PV) (hs : HS) | bk (ρ : Rho) (hs : HS) | ct (ρ : Rho) (hs : HS)
abbrev DS := Rho → HS → Option Out

def tP (c : Fc) (md : Md) (d : DE) : TE := fun σ H Q => ∃ F ρ hs p hs', G c F H σ ρ hs ∧ d ρ hs = some (p, hs') ∧
  ∀ v F' H', Step c.hd F H F' H' → G c F' H' σ ρ hs' → RpM md c.K c.hd H F' H' v p → Q v H'
def tPT (c : Fc) (d : DT) : TT := fun σ H Q => ∃ F ρ hs b hs', G c F H σ ρ hs ∧ d ρ hs = some (b, hs') ∧
  ∀ F' H', Step c.hd F H F' H' → G c F' H' σ ρ hs' → Q b H'
/-- arguments: each in a mode -/
inductive RpMs (K : PySem.W.Frag) (hd : Option Addr) (He F H : Hp) : List Md → List V → List PV → Prop
  | nil : RpMs K hd He F H [] [] []
  | cons {m : Md} {ms : List Md} {v : V} {p : PV} {vs : List V} {ps : List PV} : RpM m K hd He F H v p → RpMs K hd He F H ms vs ps → RpMs K hd He F H (m :: ms) (v :: vs) (p :: ps)
def tPA (c : Fc) (ms : List Md) (d : DA) : TA := fun σ H Q => ∃ F ρ hs ps hs', G c F H σ ρ hs ∧ d ρ hs = some (ps, hs') ∧
  ∀ vs F' H', Step c.hd F H F' H' → G c F' H' σ ρ hs' → RpMs c.K c.hd H F' H' ms vs ps → Q vs H'
/-- statements: rm is the mode in which a result is handed back -/
def tPS (c : Fc) (rm : Md) (d : DS) : TS := fun D σ H => ∃ F ρ hs o, G c F H σ ρ hs ∧ d ρ hs = some o ∧
  match o with
  | .nx ρ' hs' => ∀ σ' F' H', Sub F F' → G c F' H' σ' ρ' hs' → D.nx σ' H'
  | .bk ρ' hs' => ∀ σ' F' H', Sub F F' → G c F' H' σ' ρ' hs' → D.bk σ' H'
  | .ct ρ' hs' => ∀ σ' F' H', Sub F F' → G c F' H' σ' ρ' hs' → D.ct σ' H'
  | .ret p hs' => ∀ v F' H', Step c.hd c.F0 c.H0 F' H' → HandOk c.K c.hd F' H' hs' → RpM rm c.K c.hd c.H0 F' H' v p → D.rt v H'

section
variable {X : Cx} {e : Expr} {t t' : TE}
theorem pe_imp (h : PE X e t) (k : ∀ σ H Q, t' σ H Q → t σ H Q) : PE X e t' := ⟨fun pins s σ H Q I hw => h.run pins s σ H Q I (k σ H Q hw)⟩
theorem pt_imp {t t' : TT} (h : PT X e t) (k : ∀ σ H Q, t' σ H Q → t σ H Q) : PT X e t' := ⟨fun pins s σ H Q I hw => h.run pins s σ H Q I (k σ H Q hw)⟩
theorem pw_imp {t t' : TT} (h : PW X e t) (k : ∀ σ H Q, t' σ H Q → t σ H Q) : PW X e t' := ⟨fun wh pins s σ H Q I hw => h.run wh pins s σ H Q I (k σ H Q hw)⟩
theorem pa_imp {es : List Expr} {t t' : TA} (h : PA X es t) (k : ∀ σ H Q, t' σ H Q → t σ H Q) : PA X es t' := ⟨fun pos pins s σ H Q I hw => h.run pos pins s σ H Q I (k σ H Q hw)⟩
theorem ps_imp {st : Stmt} {t t' : TS} (h : PS X st t) (k : ∀ D σ H, t' D σ H → t D σ H) : PS X st t' := ⟨fun pins s σ H D I hw => h.run pins s σ H D I (k D σ H hw)⟩
theorem pss_imp {st : List Stmt} {t t' : TS} (h : PSs X st t) (k : ∀ D σ H, t' D σ H → t D σ H) : PSs X st t' := ⟨fun pins s σ H D I hw => h.run pins s σ H D I (k D σ H hw)⟩
end

abbrev PEp (X : Cx) (c : Fc) (md : Md) (e : Expr) (d : DE) : Prop := PE X e (tP c md d)
abbrev PTp (X : Cx) (c : Fc) (e : Expr) (d : DT) : Prop := PT X e (tPT c d)
abbrev PSp (X : Cx) (c : Fc) (rm : Md) (st : Stmt) (d : DS) : Prop := PS X st (tPS c rm d)
abbrev PSsp (X : Cx) (c : Fc) (rm : Md) (st : List Stmt) (d : DS) : Prop := PSs X st (tPS c rm d)
section
variable {X : Cx} {c : Fc} {e : Expr} {d : DE}
theorem to_bw {md : Md} (h : PEp X c md e d) : PEp X c .bw e d := pe_imp h fun σ H Q ⟨F, ρ, hs, p, hs', g, e, k⟩ => ⟨F, ρ, hs, p, hs', g, e, fun v F' H' s g' r => k v F' H' s g' (RpM.bw r)⟩
theorem fr_fz (h : PEp X c .fr e d) : PEp X c .fz e d := pe_imp h fun σ H Q ⟨F, ρ, hs, p, hs', g, e, k⟩ => ⟨F, ρ, hs, p, hs', g, e, fun v F' H' s g' r => by
  obtain ⟨a, o, rfl, h0, h1, h2, h3, h4⟩ := r
  have s2 : Step c.hd F H (upd F' a o) H' := s.freeze h0 h1 h2
  refine k (.ref a) (upd F' a o) H' s2 (g.step s2 ?_) (ObRep.rp upd_same (h4.mono (Sub.new h2)))
  intro b hb
  obtain ⟨vs, q1, q2, q3⟩ := g'.hand b hb
  refine ⟨vs, q1, ?_, q3.mono (Sub.new h2)⟩
  rw [upd_ne (fun z => h3 (by rw [← z, hb]))]
  exact q2⟩
end
end PL

set_option Elab.async false
set_option linter.all false
set_option maxRecDepth 100000
set_option maxHeartbeats 1000000
/-! PL, part b: expressions. -/
namespace PL
open PySem PySem.Spec PyProof.Rows L2

/-- what a rule may lean on -/
structure Ctx (hd : Option Addr) (F H : Hp) : Prop where
  sub : Sub F H
  hdn : ∀ h, hd = some h → H h ≠ none ∧ F h = none
section
variable {c : Fc} {F H F' H' : Hp} {σ : L2.St} {ρ : Rho} {hs hs' : HS} {hd : Option Addr} {K : PySem.W.Frag} {He : Hp} {v : V} {p : PV} {md : Md}
theorem G.ctx (g : G c F H σ ρ hs) : Ctx c.hd F H := ⟨g.sub, fun h e => by
  obtain ⟨vs, h1, h2, _⟩ := g.hand h e
  exact ⟨(by rw [h1]; exact fun z => nomatch z), h2⟩⟩
theorem RpM.he (s : ∀ b, H b = none → He b = none) (h : RpM md K hd H F' H' v p) : RpM md K hd He F' H' v p := by
  cases md with
  | fz => exact h
  | bw => exact h
  | fr =>
    obtain ⟨a, o, e, h0, r⟩ := h
    exact ⟨a, o, e, s a h0, r⟩
theorem Ctx.ne (x : Ctx hd F H) {a : Addr} (h : H a = none) : some a ≠ hd := fun e => (x.hdn a e.symm).1 h
/-- a new list, tuple, dict: the three modes -/
theorem RpM.new {o : HO} {a : Addr} (x : Ctx hd F H) (n : H a = none) (r : ObRep K hd F o p) : RpM .fr K hd H F (upd H a o) (.ref a) p :=
  ⟨a, o, rfl, n, upd_same, x.sub.none n, x.ne n, r⟩
end

/-! ### small denotations -/
def dC (p : PV) : DE := fun _ hs => some (p, hs)
def dV (i : Nat) : DE := fun ρ hs => match ρ[i]? with
  | some (some (.val p)) => some (p, hs)
  | _ => none
def dO (i : Nat) : DE := fun ρ hs => match ρ[i]? with
  | some (some (.own p)) => some (p, hs)
  | _ => none
def dBin (op : PV → PV → Option PV) (a b : DE) : DE := fun ρ hs => match a ρ hs with
  | none => none
  | some (x, h1) => match b ρ h1 with
    | none => none
    | some (y, h2) => match op x y with
      | none => none
      | some z => some (z, h2)
def dUn (op : PV → Option PV) (a : DE) : DE := fun ρ hs => match a ρ hs with
  | none => none
  | some (x, h1) => match op x with
    | none => none
    | some z => some (z, h1)
def dNil : DA := fun _ hs => some ([], hs)
def dCons (a : DE) (b : DA) : DA := fun ρ hs => match a ρ hs with
  | none => none
  | some (x, h1) => match b ρ h1 with
    | none => none
    | some (xs, h2) => some (x :: xs, h2)
def dCall (op : List PV → Option PV) (a : DA) : DE := fun ρ hs => match a ρ hs with
  | none => none
  | some (xs, h1) => match op xs with
    | none => none
    | some z => some (z, h1)
/-- a def of one's own -/
def dFn (f : List PV → HS → Option (PV × HS)) (a : DA) : DE := fun ρ hs => match a ρ hs with
  | none => none
  | some (xs, h1) => f xs h1

theorem dBin_some {op : PV → PV → Option PV} {a b : DE} {ρ : Rho} {hs hs' : HS} {z : PV} (h : dBin op a b ρ hs = some (z, hs')) :
    ∃ x h1 y, a ρ hs = some (x, h1) ∧ b ρ h1 = some (y, hs') ∧ op x y = some z := by
  unfold dBin at h
  split at h
  · cases h
  · rename_i x h1 e1
    split at h
    · cases h
    · rename_i y h2 e2
      split at h
      · cases h
      · rename_i z' e3
        cases h
        exact ⟨x, h1, y, e1, e2, e3⟩
theorem dUn_some {op : PV → Option PV} {a : DE} {ρ : Rho} {hs hs' : HS} {z : PV} (h : dUn op a ρ hs = some (z, hs')) :
    ∃ x, a ρ hs = some (x, hs') ∧ op x = some z := by
  unfold dUn at h
  split at h
  · cases h
  · rename_i x h1 e1
    split at h
    · cases h
    · rename_i z' e3
      cases h
      exact ⟨x, e1, e3⟩
theorem dCons_some {a : DE} {b : DA} {ρ : Rho} {hs hs' : HS} {zs : List PV} (h : dCons a b ρ hs = some (zs, hs')) :
    ∃ x h1 xs, a ρ hs = some (x, h1) ∧ b ρ h1 = some (xs, hs') ∧ zs = x :: xs := by
  unfold dCons at h
  split at h
  · cases h
  · rename_i x h1 e1
    split at h
    · cases h
    · rename_i y h2 e2
      cases h
      exact ⟨x, h1, y, e1, e2, rfl⟩
theorem dCall_some {op : List PV → Option PV} {a : DA} {ρ : Rho} {hs hs' : HS} {z : PV} (h : dCall op a ρ hs = some (z, hs')) :
    ∃ xs, a ρ hs = some (xs, hs') ∧ op xs = some z := by
  unfold dCall at h
  split at h
  · cases h
  · rename_i x h1 e1
    split at h
    · cases h
    · rename_i z' e3
      cases h
      exact ⟨x, e1, e3⟩
theorem dFn_some {f : List PV → HS → Option (PV × HS)} {a : DA} {ρ : Rho} {hs hs' : HS} {z : PV} (h : dFn f a ρ hs = some (z, hs')) :
    ∃ xs h1, a ρ hs = some (xs, h1) ∧ f xs h1 = some (z, hs') := by
  unfold dFn at h
  split at h
  · cases h
  · rename_i x h1 e1
    exact ⟨x, h1, e1, h⟩

/-- a list of values, each in one mode -/
inductive RpLM (m : Md) (K : PySem.W.Frag) (hd : Option Addr) (He F H : Hp) : List V → List PV → Prop
  | nil : RpLM m K hd He F H [] []
  | cons {v : V} {p : PV} {vs : List V} {ps : List PV} : RpM m K hd He F H v p → RpLM m K hd He F H vs ps → RpLM m K hd He F H (v :: vs) (p :: ps)
section
variable {K : PySem.W.Frag} {hd : Option Addr} {He He' F H : Hp}
theorem RpLM.fz : ∀ {vs : List V} {ps : List PV}, RpLM .fz K hd He F H vs ps → RpL K hd F vs ps
  | _, _, .nil => .nil
  | _, _, .cons a b => .cons a (RpLM.fz b)
theorem RpLM.bw : ∀ {vs : List V} {ps : List PV}, RpLM .bw K hd He F H vs ps → RpLM .bw K hd He' F H vs ps
  | _, _, .nil => .nil
  | _, _, .cons a b => .cons a (RpLM.bw b)
theorem RpLM.he {m : Md} (s : ∀ b, He' b = none → He b = none) : ∀ {vs : List V} {ps : List PV}, RpLM m K hd He' F H vs ps → RpLM m K hd He F H vs ps
  | _, _, .nil => .nil
  | _, _, .cons a b => .cons (a.he s) (RpLM.he s b)
theorem RpLM.length {m : Md} : ∀ {vs : List V} {ps : List PV}, RpLM m K hd He F H vs ps → vs.length = ps.length
  | _, _, .nil => rfl
  | _, _, .cons _ b => by simp [RpLM.length b]
end
def tPL (c : Fc) (m : Md) (d : DA) : TA := fun σ H Q => ∃ F ρ hs ps hs', G c F H σ ρ hs ∧ d ρ hs = some (ps, hs') ∧
  ∀ vs F' H', Step c.hd F H F' H' → G c F' H' σ ρ hs' → RpLM m c.K c.hd H F' H' vs ps → Q vs H'
abbrev PAp (X : Cx) (c : Fc) (m : Md) (es : List Expr) (d : DA) : Prop := PA X es (tPL c m d)

section
variable {X : Cx} {c : Fc} {md : Md} {a b e : Expr} {es : List Expr} {da db d : DE} {ds : DA} {pos : Pos}
/-! ### constants, names -/
theorem p_cst {p : PV} {v : V} (h : PE X e (tC v)) (r : ∀ F, Rp c.K c.hd F v p) : PEp X c .fz e (dC p) := pe_imp h fun σ H Q ⟨F, ρ, hs, q, hs', g, e, k⟩ => by
  cases e
  exact k v F H (Step.refl g.sub) g (r F)
theorem p_int {i j} : PEp X c .fz (.Constant (.int i) j pos) (dC (.int i)) := p_cst pe_int fun _ => .int i
theorem p_bl {b j} : PEp X c .fz (.Constant (.bool b) j pos) (dC (.bl b)) := p_cst pe_bl fun _ => .bl b
theorem p_non {j} : PEp X c .fz (.Constant .none j pos) (dC .non) := p_cst pe_non fun _ => .non
theorem p_str {x j l} (h : x.cps.toList = l) : PEp X c .fz (.Constant (.str x) j pos) (dC (.str l)) := p_cst pe_str fun _ => h ▸ .str x
theorem p_gint {x : Str} {i : Int} (hg : Gl X x) (hm : ∃ t, X.mg x = some (.int i t)) (hd : (x == ("__debug__" : Str)) = false := by decide +kernel) : PEp X c .fz (.Name x pos) (dC (.int i)) := by
  obtain ⟨t, hm⟩ := hm
  exact p_cst (pe_glob (v := .int i) hg hm ⟨_, rfl⟩ hd) fun _ => .int i
theorem p_gstr {x : Str} {z : Str} {l : List Nat} (hg : Gl X x) (hm : ∃ t, X.mg x = some (.str z t)) (h : z.cps.toList = l) (hd : (x == ("__debug__" : Str)) = false := by decide +kernel) : PEp X c .fz (.Name x pos) (dC (.str l)) := by
  obtain ⟨t, hm⟩ := hm
  exact p_cst (pe_glob (v := .str z) hg hm ⟨_, rfl⟩ hd) fun _ => h ▸ .str z
theorem p_var {i : Nat} (h : PE X e (tVar i)) : PEp X c .fz e (dV i) := pe_imp h fun σ H Q ⟨F, ρ, hs, q, hs', g, e, k⟩ => by
  unfold dV at e
  split at e
  · rename_i p hp
    cases e
    obtain ⟨v, h1, h2⟩ := g.slot i _ hp
    exact ⟨v, h1, k v F H (Step.refl g.sub) g h2⟩
  · cases e
theorem p_own {i : Nat} (h : PE X e (tVar i)) : PEp X c .bw e (dO i) := pe_imp h fun σ H Q ⟨F, ρ, hs, q, hs', g, e, k⟩ => by
  unfold dO at e
  split at e
  · rename_i p hp
    cases e
    obtain ⟨v, h1, a, o, rfl, h2, h3, h4, h5, h6⟩ := g.slot i _ hp
    exact ⟨_, h1, k _ F H (Step.refl g.sub) g (.inr ⟨a, o, rfl, h2, h3, h5, h6⟩)⟩
  · cases e

/-! ### operators -/
def OpOk (K : PySem.W.Frag) (hd : Option Addr) (md : Md) (op : PV → PV → Option PV) (r : R2) : Prop :=
  ∀ (F H : Hp) (v w : V) (p q z : PV) (Q : VK), Ctx hd F H → RpB K hd F H v p → RpB K hd F H w q → op p q = some z →
    (∀ v' F' H', Step none F H F' H' → RpM md K hd H F' H' v' z → Q v' H') → r v w H Q
theorem op_imp {op : PV → PV → Option PV} {r : R2} (ok : OpOk c.K c.hd md op r) {m1 m2 : Md} (σ : L2.St) (H : Hp) (Q : VK) (h : tP c md (dBin op da db) σ H Q) : tOp r (tP c m1 da) (tP c m2 db) σ H Q := by
  obtain ⟨F, ρ, hs, z, hs', g, e, k⟩ := h
  obtain ⟨x, h1, y, e1, e2, e3⟩ := dBin_some e
  refine ⟨F, ρ, hs, x, h1, g, e1, fun v F1 H1 s1 g1 r1 => ⟨F1, ρ, h1, y, hs', g1, e2, fun w F2 H2 s2 g2 r2 => ?_⟩⟩
  refine ok F2 H2 v w x y z Q g2.ctx (r1.step s2).bw r2.bw e3 fun v' F' H' s3 r3 => ?_
  have s12 := s1.trans s2
  exact k v' F' H' (s12.trans (s3.wide _)) (g2.pure s3) (r3.he fun b => s12.free)
theorem p_op {o : Operator} {op : PV → PV → Option PV} {r : R2} {m1 m2 : Md} (ho : OpR X (binaryOp o) r) (ok : OpOk c.K c.hd md op r) (ha : PEp X c m1 a da) (hb : PEp X c m2 b db) : PEp X c md (.BinOp a o b pos) (dBin op da db) :=
  pe_imp (pe_op ho ha hb) (op_imp ok)
theorem p_cmp {o : CmpOp} {op : PV → PV → Option PV} {r : R2} {m1 m2 : Md} (ho : OpR X (compareOp o) r) (ok : OpOk c.K c.hd .fz op r) (hm : behindInMarks o b = false) (ha : PEp X c m1 a da) (hb : PEp X c m2 b db) : PEp X c .fz (.Compare a [o] [b] pos) (dBin op da db) :=
  pe_imp (pe_cmpR ho ha hb hm) (op_imp ok)
def UnOk (K : PySem.W.Frag) (hd : Option Addr) (md : Md) (op : PV → Option PV) (r : V → Hp → VK → Prop) : Prop :=
  ∀ (F H : Hp) (v : V) (p z : PV) (Q : VK), Ctx hd F H → RpB K hd F H v p → op p = some z →
    (∀ v' F' H', Step none F H F' H' → RpM md K hd H F' H' v' z → Q v' H') → r v H Q
theorem p_un {o : UnaryOp} {op : PV → Option PV} {r : V → Hp → VK → Prop} {m1 : Md} (ho : UnR X (unaryOp o) r) (ok : UnOk c.K c.hd md op r) (ha : PEp X c m1 a da) : PEp X c md (.UnaryOp o a pos) (dUn op da) :=
  pe_imp (pe_un ho ha) fun σ H Q ⟨F, ρ, hs, z, hs', g, e, k⟩ => by
    obtain ⟨x, e1, e3⟩ := dUn_some e
    refine ⟨F, ρ, hs, x, hs', g, e1, fun v F1 H1 s1 g1 r1 => ?_⟩
    refine ok F1 H1 v x z Q g1.ctx r1.bw e3 fun v' F' H' s3 r3 => ?_
    exact k v' F' H' (s1.trans (s3.wide _)) (g1.pure s3) (r3.he fun b => s1.free)

/-! ### argument lists, built-in calls -/
theorem pa_n {m : Md} : PAp X c m [] dNil := pa_imp pa_nil fun σ H Q ⟨F, ρ, hs, z, hs', g, e, k⟩ => by
  cases e
  exact k [] F H (Step.refl g.sub) g .nil
theorem RpLM.step {K : PySem.W.Frag} {hd : Option Addr} {He F H F' H' : Hp} {m : Md} (t : Step hd F H F' H') : ∀ {vs : List V} {ps : List PV}, RpLM m K hd He F H vs ps → RpLM m K hd He F' H' vs ps
  | _, _, .nil => .nil
  | _, _, .cons a b => .cons (a.step t) (RpLM.step t b)
theorem pa_c {m : Md} (ha : PEp X c m e d) (hb : PAp X c m es ds) (hst : starEach (e :: es) X.env = (false, eval e X.env) :: starEach es X.env := by rfl) : PAp X c m (e :: es) (dCons d ds) := pa_imp (pa_cons ha hb hst) fun σ H Q ⟨F, ρ, hs, zs, hs', g, e, k⟩ => by
  obtain ⟨x, h1, xs, e1, e2, rfl⟩ := dCons_some e
  refine ⟨F, ρ, hs, x, h1, g, e1, fun v F1 H1 s1 g1 r1 => ⟨F1, ρ, h1, xs, hs', g1, e2, fun vs F2 H2 s2 g2 r2 => ?_⟩⟩
  exact k (v :: vs) F2 H2 (s1.trans s2) g2 (.cons (r1.step s2) (r2.he fun b => s1.free))
def CallOk (K : PySem.W.Frag) (hd : Option Addr) (md : Md) (op : List PV → Option PV) (r : List V → Hp → VK → Prop) : Prop :=
  ∀ (F H : Hp) (vs : List V) (ps : List PV) (z : PV) (Q : VK), Ctx hd F H → RpLM .bw K hd H F H vs ps → op ps = some z →
    (∀ v' F' H', Step none F H F' H' → RpM md K hd H F' H' v' z → Q v' H') → r vs H Q
theorem call_imp {op : List PV → Option PV} {r : List V → Hp → VK → Prop} (ok : CallOk c.K c.hd md op r) (σ : L2.St) (H : Hp) (Q : VK) (h : tP c md (dCall op ds) σ H Q) : tCB r (tPL c .bw ds) σ H Q := by
  obtain ⟨F, ρ, hs, z, hs', g, e, k⟩ := h
  obtain ⟨xs, e1, e3⟩ := dCall_some e
  refine ⟨F, ρ, hs, xs, hs', g, e1, fun vs F1 H1 s1 g1 r1 => ?_⟩
  refine ok F1 H1 vs xs z Q g1.ctx (RpLM.bw r1) e3 fun v' F' H' s3 r3 => ?_
  exact k v' F' H' (s1.trans (s3.wide _)) (g1.pure s3) (r3.he fun b => s1.free)
theorem p_bi {x : Str} {id : String} {p : Pos} {op : List PV → Option PV} {r : List V → Hp → VK → Prop} (hc : CallR X (.builtin id) r) (ok : CallOk c.K c.hd md op r) (hg : Gl X x) (hm : X.mg x = none) (hv : bootBuiltins x = some (.builtin id)) (ha : PAp X c .bw (e :: es) ds)
    (hn : x ≠ "__name__" := by decide +kernel) (hdb : (x == ("__debug__" : Str)) = false := by decide +kernel) (he : starEach (e :: es) X.env = (false, eval e X.env) :: starEach es X.env := by rfl) (hpl : (backTo pos (starEach es X.env)).any (·.1) = false := by rfl) : PEp X c md (.Call (.Name x p) (e :: es) [] pos) (dCall op ds) :=
  pe_imp (pe_callB hc hg hm hv ha hn hdb he hpl) (call_imp ok)
theorem p_ty {x : Str} {T : String} {p : Pos} {op : List PV → Option PV} {r : List V → Hp → VK → Prop} (hc : CallR X (.type T) r) (ok : CallOk c.K c.hd md op r) (hg : Gl X x) (hm : X.mg x = none) (hv : bootBuiltins x = some (.type T)) (ha : PAp X c .bw (e :: es) ds)
    (hn : x ≠ "__name__" := by decide +kernel) (hdb : (x == ("__debug__" : Str)) = false := by decide +kernel) (he : starEach (e :: es) X.env = (false, eval e X.env) :: starEach es X.env := by rfl) (hpl : (backTo pos (starEach es X.env)).any (·.1) = false := by rfl) : PEp X c md (.Call (.Name x p) (e :: es) [] pos) (dCall op ds) :=
  pe_imp (pe_callTy hc hg hm hv ha hn hdb he hpl) (call_imp ok)

/-! ### defs of one's own -/
/-- the promise of a def by its denotation -/
def spD (K : PySem.W.Frag) (n : Nat) (md : Md) (f : List PV → HS → Option (PV × HS)) : Sp := fun vs H Q _ => vs.length = n ∧ ∃ F hd hs ps r hs', Ctx hd F H ∧ HandOk K hd F H hs ∧ RpL K hd F vs ps ∧ f ps hs = some (r, hs') ∧
  ∀ v F' H', Step hd F H F' H' → HandOk K hd F' H' hs' → RpM md K hd H F' H' v r → Q v H'
theorem p_call {CX : CXT} {k n : Nat} {f : Addr} {fd : FuncData} {ps : List Str} {g : List PV → HS → Option (PV × HS)} {x : Str} {p : Pos} {E : XK} (F : FnOk X.prog X.w X.K X.mg X.base CX k f fd ps (spD c.K n md g)) (hr : Room k X.A) (hg : Gl X x) (hm : X.mg x = some (.ref f)) (hk : PySem.W.keepIn X.K (.ref f) = true)
    (hb : Binds X.K fd ps []) (hx : Passes CX X E) (hn : (e :: es).length = n) (ha : PAp X c .fz (e :: es) ds) (hl : ∀ ρ hs xs h1, ds ρ hs = some (xs, h1) → xs.length = n) (hdb : (x == ("__debug__" : Str)) = false := by decide +kernel) (he : starEach (e :: es) X.env = (false, eval e X.env) :: starEach es X.env := by rfl) (hpl : (backTo pos (starEach es X.env)).any (·.1) = false := by rfl) : PEp X c md (.Call (.Name x p) (e :: es) [] pos) (dFn g ds) :=
  pe_imp (pe_call F hr hg hm hk hb .nil hx ha hdb he hpl) fun σ H Q ⟨F, ρ, hs, z, hs', gg, e, k⟩ => by
    obtain ⟨xs, h1, e1, e3⟩ := dFn_some e
    refine ⟨F, ρ, hs, xs, h1, gg, e1, fun vs F1 H1 s1 g1 r1 => ?_⟩
    refine ⟨by rw [List.append_nil, r1.length]; exact hl _ _ _ _ e1, F1, c.hd, h1, xs, z, hs', g1.ctx, g1.hand, by rw [List.append_nil]; exact r1.fz, e3, fun v F' H' s h r => ?_⟩
    exact k v F' H' (s1.trans s) (g1.step s h) (r.he fun b => s1.free)
end
end PL

set_option Elab.async false
set_option linter.all false
set_option maxRecDepth 100000
set_option maxHeartbeats 1000000
/-! PL, part c: tests, displays, subscripts, slices, methods, what is walked, comprehensions, statements. -/
namespace PL
open PySem PySem.Spec PyProof.Rows L2

/-! ### tests -/
/-- a value by its truth -/
def truP : PV → Option Bool
  | .non => some false
  | .bl b => some b
  | .int i => some (i != 0)
  | .str x => if x.length ≤ sizeLine then some (!x.isEmpty) else none
  | .lst xs => some (!xs.isEmpty)
  | .tup xs => some (!xs.isEmpty)
  | _ => none
def dTru (a : DE) : DT := fun ρ hs => match a ρ hs with
  | none => none
  | some (x, h1) => match truP x with
    | none => none
    | some b => some (b, h1)
def dNot (a : DT) : DT := fun ρ hs => match a ρ hs with
  | none => none
  | some (b, h1) => some (!b, h1)
def dAnd (a b : DT) : DT := fun ρ hs => match a ρ hs with
  | none => none
  | some (true, h1) => b ρ h1
  | some (false, h1) => some (false, h1)
def dOr (a b : DT) : DT := fun ρ hs => match a ρ hs with
  | none => none
  | some (true, h1) => some (true, h1)
  | some (false, h1) => b ρ h1
/-- a test as a value -/
def dTV (a : DT) : DE := fun ρ hs => match a ρ hs with
  | none => none
  | some (b, h1) => some (.bl b, h1)
def dIf (t : DT) (a b : DE) : DE := fun ρ hs => match t ρ hs with
  | none => none
  | some (true, h1) => a ρ h1
  | some (false, h1) => b ρ h1
/-- a op b op' c -/
def dChain (op op' : PV → PV → Option PV) (a b d : DE) : DE := fun ρ hs => match a ρ hs with
  | none => none
  | some (x, h1) => match b ρ h1 with
    | none => none
    | some (y, h2) => match op x y with
      | some (.bl true) => (match d ρ h2 with
        | none => none
        | some (z, h3) => match op' y z with
          | none => none
          | some r => some (r, h3))
      | some (.bl false) => some (.bl false, h2)
      | _ => none
section
variable {K : PySem.W.Frag} {hd : Option Addr} {F H : Hp} {v : V} {p : PV} {b : Bool}
theorem tru_rep (x : Ctx hd F H) (r : RpB K hd F H v p) (h : truP p = some b) : TruV K v H b := by
  cases p with
  | non => rw [RpB.non r]; cases h; rfl
  | bl k => rw [RpB.bl r]; cases h; rfl
  | int i => rw [RpB.int r]; cases h; rfl
  | str z =>
    obtain ⟨y, rfl, e⟩ := RpB.str r
    have h : (if z.length ≤ sizeLine then some (!z.isEmpty) else none) = some b := h
    split at h
    · rename_i hz
      cases h
      have ez : y.length = z.length := by rw [← e]; show y.cps.size = _; simp
      refine ⟨by rw [ez]; exact hz, ?_⟩
      rw [ez]
      cases z with
      | nil => rfl
      | cons a l =>
        have h0 : ((a :: l).length : Int) ≠ 0 := by simp only [List.length_cons]; omega
        simpa using h0
    · cases h
  | lst xs =>
    obtain ⟨a, vs, rfl, e, l⟩ := RpB.lst x.sub r
    cases h
    refine .inl ⟨vs, SqL.of e, ?_⟩
    have := l.length
    cases vs <;> cases xs <;> simp_all
  | tup xs =>
    obtain ⟨a, vs, rfl, e, l⟩ := RpB.tup r
    cases h
    refine .inr (.inl ⟨vs, SqT.of (x.sub _ _ e), ?_⟩)
    have := l.length
    cases vs <;> cases xs <;> simp_all
  | dct _ => cases h
  | dcT _ => cases h
  | hand => cases h
  | scr _ => cases h
end
section
variable {X : Cx} {c : Fc} {md : Md} {a b e : Expr} {es : List Expr} {da db dd d : DE} {ds : DA} {t t' : DT} {pos : Pos}
theorem pt_tru {m : Md} (ha : PEp X c m a da) (he : ∀ whole, isTrue a X.env whole = (do let v ← whole; standAt a.pos; holding [v] (truthy v)) := by intro _; rfl) (hK : X.K = c.K := by rfl) : PTp X c a (dTru da) :=
  pt_imp (pt_truth ha he) fun σ H Q ⟨F, ρ, hs, z, hs', g, e, k⟩ => by
    unfold dTru at e
    split at e
    · cases e
    · rename_i x h1 e1
      split at e
      · cases e
      · rename_i bb e2
        cases e
        exact ⟨F, ρ, hs, x, hs', g, e1, fun v F1 H1 s1 g1 r1 => ⟨z, hK ▸ tru_rep g1.ctx r1.bw e2, k F1 H1 s1 g1⟩⟩
theorem tB_imp {te : TE} (h : ∀ σ H Q, tP c .fz d σ H Q → te σ H Q) (σ : L2.St) (H : Hp) (Q : Bool → Hp → Prop) (hq : tPT c (dTru d) σ H Q) (hb : ∀ ρ hs p hs', d ρ hs = some (p, hs') → ∃ b, p = .bl b) : tTest te σ H Q := by
  obtain ⟨F, ρ, hs, z, hs', g, e, k⟩ := hq
  unfold dTru at e
  split at e
  · cases e
  · rename_i x h1 e1
    obtain ⟨bb, rfl⟩ := hb _ _ _ _ e1
    cases e
    refine h σ H _ ⟨F, ρ, hs, _, hs', g, e1, fun v F1 H1 s1 g1 r1 => ?_⟩
    cases r1
    exact ⟨_, rfl, k F1 H1 s1 g1⟩
/-- ops whose answers are bools -/
def IsB (op : PV → PV → Option PV) : Prop := ∀ p q z, op p q = some z → ∃ b, z = .bl b
theorem pt_cmp' {o : CmpOp} {op : PV → PV → Option PV} {r : R2} {m1 m2 : Md} (ho : OpR X (compareOp o) r) (ok : OpOk c.K c.hd .fz op r) (hb' : IsB op) (hm : behindInMarks o b = false) (ha : PEp X c m1 a da) (hb : PEp X c m2 b db) : PTp X c (.Compare a [o] [b] pos) (dTru (dBin op da db)) :=
  pt_imp (pt_cmpR ho ha hb hm) fun σ H Q h => tB_imp (op_imp ok) σ H Q h fun ρ hs p hs' e => by
    obtain ⟨x, h1, y, e1, e2, e3⟩ := dBin_some e
    exact hb' _ _ _ e3
theorem dChain_bl {op op' : PV → PV → Option PV} {d1 d2 d3 : DE} {ρ : Rho} {hs hs' : HS} {p : PV} (hb : IsB op') (h : dChain op op' d1 d2 d3 ρ hs = some (p, hs')) : ∃ b, p = .bl b := by
  unfold dChain at h
  split at h
  · cases h
  · split at h
    · cases h
    · split at h
      · split at h
        · cases h
        · split at h
          · cases h
          · rename_i r e
            cases h
            exact hb _ _ _ e
      · cases h
        exact ⟨_, rfl⟩
      · cases h
theorem chain_imp {op op' : PV → PV → Option PV} {r r' : R2} {m1 m2 m3 : Md} (ok : OpOk c.K c.hd .fz op r) (ok' : OpOk c.K c.hd .fz op' r') (σ : L2.St) (H : Hp) (Q : VK) (h : tP c .fz (dChain op op' da db dd) σ H Q) :
    tChain r r' (tP c m1 da) (tP c m2 db) (tP c m3 dd) σ H Q := by
  obtain ⟨F, ρ, hs, z, hs', g, e, k⟩ := h
  unfold dChain at e
  split at e
  · cases e
  rename_i x h1 e1
  split at e
  · cases e
  rename_i y h2 e2
  refine ⟨F, ρ, hs, x, h1, g, e1, fun v F1 H1 s1 g1 r1 => ⟨F1, ρ, h1, y, h2, g1, e2, fun w F2 H2 s2 g2 r2 => ?_⟩⟩
  split at e
  · rename_i e3
    refine ok F2 H2 v w x y _ _ g2.ctx (r1.step s2).bw r2.bw e3 fun v' F' H' s3 r3 => ?_
    cases r3
    refine ⟨true, rfl, ?_⟩
    refine iteT ?_
    split at e
    · cases e
    rename_i u h3 e4
    split at e
    · cases e
    rename_i rr e5
    cases e
    refine ⟨F', ρ, h2, u, hs', g2.pure s3, e4, fun w' F4 H4 s4 g4 r4 => ?_⟩
    refine ok' F4 H4 w w' y u z _ g4.ctx ((r2.step (s3.wide _)).step s4).bw r4.bw e5 fun v'' F'' H'' s5 r5 => ?_
    exact k v'' F'' H'' (s1.trans (s2.trans ((s3.wide _).trans (s4.trans (s5.wide _))))) (g4.pure s5) r5
  · rename_i e3
    cases e
    refine ok F2 H2 v w x y _ _ g2.ctx (r1.step s2).bw r2.bw e3 fun v' F' H' s3 r3 => ?_
    cases r3
    refine ⟨false, rfl, ?_⟩
    refine iteF ?_
    exact k _ F' H' (s1.trans (s2.trans (s3.wide _))) (g2.pure s3) (.bl false)
  · cases e
theorem p_chain {o o' : CmpOp} {op op' : PV → PV → Option PV} {r r' : R2} {m1 m2 m3 : Md} {f : Expr} (ho : OpR X (compareOp o) r) (ho' : OpR X (compareOp o') r') (ok : OpOk c.K c.hd .fz op r) (ok' : OpOk c.K c.hd .fz op' r')
    (ha : PEp X c m1 a da) (hb : PEp X c m2 b db) (hc : PEp X c m3 f dd) (hm : lastMarks [o, o'] [b, f] = false := by with_unfolding_all rfl) : PEp X c .fz (.Compare a [o, o'] [b, f] pos) (dChain op op' da db dd) :=
  pe_imp (pe_chain ho ho' ha hb hc hm) (chain_imp ok ok')
theorem pt_chain' {o o' : CmpOp} {op op' : PV → PV → Option PV} {r r' : R2} {m1 m2 m3 : Md} {f : Expr} (ho : OpR X (compareOp o) r) (ho' : OpR X (compareOp o') r') (ok : OpOk c.K c.hd .fz op r) (ok' : OpOk c.K c.hd .fz op' r') (hb' : IsB op')
    (ha : PEp X c m1 a da) (hb : PEp X c m2 b db) (hc : PEp X c m3 f dd) (hm : lastMarks [o, o'] [b, f] = false := by with_unfolding_all rfl) : PTp X c (.Compare a [o, o'] [b, f] pos) (dTru (dChain op op' da db dd)) :=
  pt_imp (pt_chain ho ho' ha hb hc hm) fun σ H Q h => tB_imp (chain_imp ok ok') σ H Q h fun ρ hs p hs' e => dChain_bl hb' e
theorem pt_not' (h : PTp X c a t) : PTp X c (.UnaryOp .Not a pos) (dNot t) := pt_imp (pt_not h) fun σ H Q ⟨F, ρ, hs, z, hs', g, e, k⟩ => by
  unfold dNot at e
  split at e
  · cases e
  · rename_i x h1 e1
    cases e
    exact ⟨F, ρ, hs, x, hs', g, e1, k⟩
abbrev PWp (X : Cx) (c : Fc) (e : Expr) (d : DT) : Prop := PW X e (tPT c d)
theorem pw_a1 (h : PTp X c a t) : PWp X c (.BoolOp .And [a] pos) t := pw_and1 h
theorem pw_o1 (h : PTp X c a t) : PWp X c (.BoolOp .Or [a] pos) t := pw_or1 h
theorem pw_a {rest : List Expr} (h : PTp X c a t) (h' : PWp X c (.BoolOp .And (b :: rest) pos) t') : PWp X c (.BoolOp .And (a :: b :: rest) pos) (dAnd t t') := pw_imp (pw_and h h') fun σ H Q ⟨F, ρ, hs, z, hs', g, e, k⟩ => by
  unfold dAnd at e
  split at e
  · cases e
  · rename_i h1 e1
    exact ⟨F, ρ, hs, true, h1, g, e1, fun F1 H1 s1 g1 => by
      refine iteT ?_
      exact ⟨F1, ρ, h1, z, hs', g1, e, fun F2 H2 s2 g2 => k F2 H2 (s1.trans s2) g2⟩⟩
  · rename_i h1 e1
    cases e
    exact ⟨F, ρ, hs, false, hs', g, e1, fun F1 H1 s1 g1 => by
      refine iteF ?_
      exact k F1 H1 s1 g1⟩
theorem pw_o {rest : List Expr} (h : PTp X c a t) (h' : PWp X c (.BoolOp .Or (b :: rest) pos) t') : PWp X c (.BoolOp .Or (a :: b :: rest) pos) (dOr t t') := pw_imp (pw_or h h') fun σ H Q ⟨F, ρ, hs, z, hs', g, e, k⟩ => by
  unfold dOr at e
  split at e
  · cases e
  · rename_i h1 e1
    cases e
    exact ⟨F, ρ, hs, true, hs', g, e1, fun F1 H1 s1 g1 => by
      refine iteT ?_
      exact k F1 H1 s1 g1⟩
  · rename_i h1 e1
    exact ⟨F, ρ, hs, false, h1, g, e1, fun F1 H1 s1 g1 => by
      refine iteF ?_
      exact ⟨F1, ρ, h1, z, hs', g1, e, fun F2 H2 s2 g2 => k F2 H2 (s1.trans s2) g2⟩⟩
/-! .. as values (bools) -/
def blOnly (d : DE) : DT := fun ρ hs => match d ρ hs with
  | some (.bl b, h1) => some (b, h1)
  | _ => none
theorem blOnly_some {d : DE} {ρ : Rho} {hs hs' : HS} {b : Bool} (h : blOnly d ρ hs = some (b, hs')) : d ρ hs = some (.bl b, hs') := by
  unfold blOnly at h
  split at h
  · rename_i b' h1 e
    cases h
    exact e
  · cases h
theorem p_one {o : BoolOp} (h : PEp X c .fz a da) : PEp X c .fz (.BoolOp o [a] pos) (dTV (blOnly da)) := pe_imp (pe_one h) fun σ H Q ⟨F, ρ, hs, z, hs', g, e, k⟩ => by
  unfold dTV at e
  split at e
  · cases e
  · rename_i b h1 e1
    cases e
    exact ⟨F, ρ, hs, _, hs', g, blOnly_some e1, k⟩
theorem p_and {rest : List Expr} {m : Md} (h : PEp X c m a da) (h' : PEp X c .fz (.BoolOp .And (b :: rest) pos) (dTV t')) : PEp X c .fz (.BoolOp .And (a :: b :: rest) pos) (dTV (dAnd (blOnly da) t')) := pe_imp (pe_and h h') fun σ H Q ⟨F, ρ, hs, z, hs', g, e, k⟩ => by
  unfold dTV dAnd at e
  cases q : blOnly da ρ hs with
  | none => rw [q] at e; cases e
  | some w =>
    obtain ⟨bb, h1⟩ := w
    rw [q] at e
    refine ⟨F, ρ, hs, .bl bb, h1, g, blOnly_some q, fun v F1 H1 s1 g1 r1 => ?_⟩
    have ev := RpB.bl r1.bw
    subst ev
    refine ⟨bb, rfl, ?_⟩
    cases bb with
    | true =>
      refine iteT ?_
      exact ⟨F1, ρ, h1, z, hs', g1, e, fun v F2 H2 s2 g2 r2 => k v F2 H2 (s1.trans s2) g2 r2⟩
    | false =>
      refine iteF ?_
      cases e
      exact k _ F1 H1 s1 g1 (.bl false)
theorem p_or {rest : List Expr} {m : Md} (h : PEp X c m a da) (h' : PEp X c .fz (.BoolOp .Or (b :: rest) pos) (dTV t')) : PEp X c .fz (.BoolOp .Or (a :: b :: rest) pos) (dTV (dOr (blOnly da) t')) := pe_imp (pe_or h h') fun σ H Q ⟨F, ρ, hs, z, hs', g, e, k⟩ => by
  unfold dTV dOr at e
  cases q : blOnly da ρ hs with
  | none => rw [q] at e; cases e
  | some w =>
    obtain ⟨bb, h1⟩ := w
    rw [q] at e
    refine ⟨F, ρ, hs, .bl bb, h1, g, blOnly_some q, fun v F1 H1 s1 g1 r1 => ?_⟩
    have ev := RpB.bl r1.bw
    subst ev
    refine ⟨bb, rfl, ?_⟩
    cases bb with
    | true =>
      refine iteT ?_
      cases e
      exact k _ F1 H1 s1 g1 (.bl true)
    | false =>
      refine iteF ?_
      exact ⟨F1, ρ, h1, z, hs', g1, e, fun v F2 H2 s2 g2 r2 => k v F2 H2 (s1.trans s2) g2 r2⟩
theorem p_not {m : Md} (h : PEp X c m a da) (hK : X.K = c.K := by rfl) : PEp X c .fz (.UnaryOp .Not a pos) (dTV (dNot (dTru da))) := pe_imp (pe_notT h) fun σ H Q ⟨F, ρ, hs, z, hs', g, e, k⟩ => by
  unfold dTV dNot dTru at e
  cases q : da ρ hs with
  | none => rw [q] at e; cases e
  | some w =>
    obtain ⟨x, h1⟩ := w
    simp only [q] at e
    cases q2 : truP x with
    | none => rw [q2] at e; cases e
    | some bb =>
      rw [q2] at e
      cases e
      exact ⟨F, ρ, hs, x, hs', g, q, fun v F1 H1 s1 g1 r1 => ⟨bb, hK ▸ tru_rep g1.ctx r1.bw q2, k _ F1 H1 s1 g1 (.bl _)⟩⟩
theorem p_if {f : Expr} (h : PTp X c f t) (ha : PEp X c md a da) (hb : PEp X c md b db) : PEp X c md (.IfExp f a b pos) (dIf t da db) := pe_imp (pe_ifExp h ha hb) fun σ H Q ⟨F, ρ, hs, z, hs', g, e, k⟩ => by
  unfold dIf at e
  split at e
  · cases e
  · rename_i h1 e1
    exact ⟨F, ρ, hs, true, h1, g, e1, fun F1 H1 s1 g1 => by
      refine iteT ?_
      exact ⟨F1, ρ, h1, z, hs', g1, e, fun v F2 H2 s2 g2 r2 => k v F2 H2 (s1.trans s2) g2 (r2.he fun b => s1.free)⟩⟩
  · rename_i h1 e1
    exact ⟨F, ρ, hs, false, h1, g, e1, fun F1 H1 s1 g1 => by
      refine iteF ?_
      exact ⟨F1, ρ, h1, z, hs', g1, e, fun v F2 H2 s2 g2 r2 => k v F2 H2 (s1.trans s2) g2 (r2.he fun b => s1.free)⟩⟩

/-! ### displays -/
def dTup (a : DA) : DE := dCall (fun ps => if ps.length ≤ sizeLine then some (.tup ps) else none) a
def dLst (a : DA) : DE := dCall (fun ps => if ps.length ≤ sizeLine then some (.lst ps) else none) a
theorem p_tup {x1 : Nat} (h : PAp X c .fz es ds) : PEp X c .fz (.Tuple es x1 pos) (dTup ds) := pe_imp (pe_tup h) fun σ H Q ⟨F, ρ, hs, z, hs', g, e, k⟩ => by
  obtain ⟨xs, e1, e3⟩ := dCall_some e
  split at e3
  · rename_i hz
    cases e3
    refine ⟨F, ρ, hs, xs, hs', g, e1, fun vs F1 H1 s1 g1 r1 => ⟨by rw [r1.length]; exact hz, fun p hp => ?_⟩⟩
    have s2 : Step none F1 H1 (upd F1 p (.tup vs)) (upd H1 p (.tup vs)) := Step.newF g1.sub hp
    exact k _ _ _ (s1.trans (s2.wide _)) (g1.pure s2) (.tup upd_same (r1.fz.mono s2.mono))
  · cases e3
theorem p_lst (h : PAp X c .fz es ds) : PEp X c .fr (.List es pos) (dLst ds) := pe_imp (pe_lst h) fun σ H Q ⟨F, ρ, hs, z, hs', g, e, k⟩ => by
  obtain ⟨xs, e1, e3⟩ := dCall_some e
  split at e3
  · rename_i hz
    cases e3
    refine ⟨F, ρ, hs, xs, hs', g, e1, fun vs F1 H1 s1 g1 r1 => ⟨by rw [r1.length]; exact hz, fun p hp => ?_⟩⟩
    have s2 : Step none F1 H1 F1 (upd H1 p (.lst vs)) := Step.new g1.sub hp
    exact k _ _ _ (s1.trans (s2.wide _)) (g1.pure s2) ((RpM.new (o := .lst vs) (p := .lst xs) g1.ctx hp (show ObRep c.K c.hd F1 (.lst vs) (.lst xs) from r1.fz)).he fun b => s1.free)
  · cases e3

/-! ### subscripts, slices -/
theorem p_ix {op : PV → PV → Option PV} {r : R2} {m1 m2 : Md} (hr : IxR X r) (ok : OpOk c.K c.hd md op r) (ha : PEp X c m1 a da) (hb : PEp X c m2 b db) (hs : PlainIx b) : PEp X c md (.Subscript a b pos) (dBin op da db) :=
  pe_imp (pe_ix hr ha hb hs) (op_imp ok)
abbrev DO := Rho → HS → Option (Option Int × HS)
def dNo : DO := fun _ hs => some (none, hs)
def dSo (a : DE) : DO := fun ρ hs => match a ρ hs with
  | some (.int i, h1) => some (some i, h1)
  | _ => none
def tPO (c : Fc) (d : DO) : TO := fun σ H Q => ∃ F ρ hs o hs', G c F H σ ρ hs ∧ d ρ hs = some (o, hs') ∧ ∀ F' H', Step c.hd F H F' H' → G c F' H' σ ρ hs' → Q o H'
theorem po_imp {e : Option Expr} {t t' : TO} (h : PO X e t) (k : ∀ σ H Q, t' σ H Q → t σ H Q) : PO X e t' := ⟨fun pins s σ H Q I hw => h.run pins s σ H Q I (k σ H Q hw)⟩
theorem po_n : PO X none (tPO c dNo) := po_imp po_none fun σ H Q ⟨F, ρ, hs, z, hs', g, e, k⟩ => by
  cases e
  exact k F H (Step.refl g.sub) g
theorem po_s {m : Md} (h : PEp X c m a da) : PO X (some a) (tPO c (dSo da)) := po_imp (po_some h) fun σ H Q ⟨F, ρ, hs, z, hs', g, e, k⟩ => by
  unfold dSo at e
  split at e
  · rename_i i h1 e1
    cases e
    refine ⟨F, ρ, hs, _, hs', g, e1, fun v F1 H1 s1 g1 r1 => ?_⟩
    have ev := RpB.int r1.bw
    subst ev
    exact ⟨i, rfl, k F1 H1 s1 g1⟩
  · cases e
def dSl (op : PV → Option Int → Option Int → Option PV) (a : DE) (lo hi : DO) : DE := fun ρ hs => match a ρ hs with
  | none => none
  | some (x, h1) => match lo ρ h1 with
    | none => none
    | some (l, h2) => match hi ρ h2 with
      | none => none
      | some (u, h3) => match op x l u with
        | none => none
        | some z => some (z, h3)
def SlOk (K : PySem.W.Frag) (hd : Option Addr) (md : Md) (op : PV → Option Int → Option Int → Option PV) (r : V → Option Int → Option Int → Hp → VK → Prop) : Prop :=
  ∀ (F H : Hp) (v : V) (p z : PV) (l u : Option Int) (Q : VK), Ctx hd F H → RpB K hd F H v p → op p l u = some z →
    (∀ v' F' H', Step none F H F' H' → RpM md K hd H F' H' v' z → Q v' H') → r v l u H Q
theorem p_sl {op : PV → Option Int → Option Int → Option PV} {r : V → Option Int → Option Int → Hp → VK → Prop} {m1 : Md} {lo hi : Option Expr} {dl du : DO} {p2 : Pos} (hr : SlR X r) (ok : SlOk c.K c.hd md op r) (ha : PEp X c m1 a da) (hl : PO X lo (tPO c dl)) (hu : PO X hi (tPO c du)) :
    PEp X c md (.Subscript a (.Slice lo hi none p2) pos) (dSl op da dl du) := pe_imp (pe_slice hr ha hl hu) fun σ H Q ⟨F, ρ, hs, z, hs', g, e, k⟩ => by
  unfold dSl at e
  split at e
  · cases e
  rename_i x h1 e1
  split at e
  · cases e
  rename_i l h2 e2
  split at e
  · cases e
  rename_i u h3 e3
  split at e
  · cases e
  rename_i z' e4
  cases e
  refine ⟨F, ρ, hs, x, h1, g, e1, fun v F1 H1 s1 g1 r1 => ⟨F1, ρ, h1, l, h2, g1, e2, fun F2 H2 s2 g2 => ⟨F2, ρ, h2, u, hs', g2, e3, fun F3 H3 s3 g3 => ?_⟩⟩⟩
  refine ok F3 H3 v x z l u Q g3.ctx ((r1.step s2).step s3).bw e4 fun v' F' H' s4 r4 => ?_
  have s123 := s1.trans (s2.trans s3)
  exact k v' F' H' (s123.trans (s4.wide _)) (g3.pure s4) (r4.he fun b => s123.free)

/-! ### the hand's items -/
def dHx (j i : Nat) : DE := fun ρ hs => match ρ[j]? with
  | some (some (.val .hand)) => (match hs[i]? with
    | some p => some (p, hs)
    | none => none)
  | _ => none
/-- hand[i], i written -/
theorem p_hx {j : Nat} (i : Nat) {cst : Const} {kk} {pi_ : Pos} (hcs : cst = .int (i : Int)) (hv : PE X a (tVar j)) (hs0 : PlainIx (.Constant cst kk pi_)) :
    PEp X c .fz (.Subscript a (.Constant cst kk pi_) pos) (dHx j i) := by
  subst hcs
  exact pe_imp (pe_ix ix_list hv pe_int hs0) fun σ H Q ⟨F, ρ, hs, z, hs', g, e, k⟩ => by
    unfold dHx at e
    split at e
    · rename_i hj
      split at e
      · rename_i p hp
        cases e
        obtain ⟨v, h1, h2⟩ := g.slot j _ hj
        cases h2 with
        | hand hh =>
          obtain ⟨vs, q1, q2, q3⟩ := g.hand _ hh
          obtain ⟨w, w1, w2⟩ := q3.get hp
          exact ⟨_, h1, _, vs, (i : Int), w, rfl, rfl, SqL.of q1, atI_nat w1, k w F H (Step.refl g.sub) g w2⟩
      · cases e
    · cases e
end
end PL

set_option Elab.async false
set_option linter.all false
set_option maxRecDepth 100000
set_option maxHeartbeats 1000000
/-! PL, part d: what is walked, comprehensions, statements, defs. -/
namespace PL
open PySem PySem.Spec PyProof.Rows L2

/-! ### what is walked -/
abbrev DI := Rho → HS → Option (List PV × HS)
/-- the iterator J gives ps, one after another, while what B tells stands -/
structure ItOk (K : PySem.W.Frag) (hd : Option Addr) (B : Hp) (J : It) (ps : List PV) (F H : Hp) : Prop where
  ex : ∃ (Gd : Hp → Prop) (Y : Nat → Hp → V → Hp → Prop), Walk J ps.length Gd Y ∧ (∀ H', (∀ b o, B b = some o → some b ≠ hd → H' b = some o) → Gd H') ∧
    ∀ i F' H' x H'', Sub F F' → Ctx hd F' H' → (∀ b o, B b = some o → some b ≠ hd → H' b = some o) → i < ps.length → Y i H' x H'' → ∃ F'' p, Step none F' H' F'' H'' ∧ ps[i]? = some p ∧ Rp K hd F'' x p
def tI (c : Fc) (fz : Bool) (d : DI) : TI := fun σ H R => ∃ F ρ hs ps hs', G c F H σ ρ hs ∧ d ρ hs = some (ps, hs') ∧
  ∀ J F' H', Step c.hd F H F' H' → G c F' H' σ ρ hs' → ItOk c.K c.hd (if fz = true then F' else H') J ps F' H' → R J H'
abbrev PIt (X : Cx) (c : Fc) (fz : Bool) (tg e : Expr) (d : DI) : Prop := PI X tg e (tI c fz d)
theorem pi_imp {X : Cx} {tg e : Expr} {t t' : TI} (h : PI X tg e t) (k : ∀ σ H R, t' σ H R → t σ H R) : PI X tg e t' := ⟨fun pins s σ H R I hw => h.run pins s σ H R I (k σ H R hw)⟩
section
variable {K : PySem.W.Frag} {hd : Option Addr} {F H : Hp} {J : It} {ps : List PV}
theorem ItOk.bw (x : Ctx hd F H) (h : ItOk K hd F J ps F H) : ItOk K hd H J ps F H := by
  obtain ⟨Gd, Y, w, st, y⟩ := h.ex
  refine ⟨Gd, Y, w, fun H' k => st H' fun b o e ne => k b o (x.sub b o e) ne, fun i F' H' v H'' s c' k hi q => y i F' H' v H'' s c' (fun b o e ne => k b o (x.sub b o e) ne) hi q⟩
end
section
variable {X : Cx} {c : Fc} {tg e : Expr} {d : DI}
theorem to_bi (h : PIt X c true tg e d) : PIt X c false tg e d := pi_imp h fun σ H R ⟨F, ρ, hs, ps, hs', g, e, k⟩ => ⟨F, ρ, hs, ps, hs', g, e, fun J F' H' s g' i => k J F' H' s g' (ItOk.bw g'.ctx i)⟩
end

/-- a list, a tuple, a text, the script -/
def iSeq (K : PySem.W.Frag) (te : TE) : TI := fun σ H R => te σ H fun v H1 =>
  (∃ a, v = .ref a ∧ (∃ xs, SqL K H1 a xs) ∧ R (Itl K a) H1) ∨ (∃ a, v = .ref a ∧ (∃ xs, SqT K H1 a xs) ∧ R (Itt K a) H1) ∨ (∃ x, v = .str x ∧ R (Its x) H1)
theorem pi_seq {X : Cx} {tg e : Expr} {te : TE} (he : PE X e te) : PI X tg e (iSeq X.K te) := by
  refine ⟨fun pins s σ H R I h => ?_⟩
  refine thn (he.run pins s σ H _ I h) fun v s1 ⟨y, H1, I1, r1, q⟩ => ?_
  rcases q with ⟨a, rfl, ⟨xs, hq⟩, q⟩ | ⟨a, rfl, ⟨xs, hq⟩, q⟩ | ⟨x, rfl, q⟩
  · cases r1
    obtain ⟨its, rv, p, hz⟩ := I1.list hq
    refine wpAny_pyIter_list p.isList ?_
    refine ⟨s1.heap.objs.size, [s1.heap.objs.size], _, _, H1, rfl, I1.kept (t' := s1.toks) fun b o e => Heap.get?_push_of_some _ e, turn_list a _, ⟨_, Heap.get?_push_size _ rfl, rfl, rfl⟩, fun b hb => ?_, q⟩
    have e : b = s1.heap.objs.size := by simpa using hb
    subst e
    exact I1.fpOk (Nat.le_refl _) (I1.hok.fresh (Nat.le_refl _))
  · cases r1
    obtain ⟨its, rv, p, hz⟩ := I1.tuple hq
    refine wpAny_pyIter_tuple (show s1.heap.IsTuple a its.toArray from p) ?_
    refine ⟨s1.heap.objs.size, [s1.heap.objs.size], _, _, H1, rfl, I1.kept (t' := s1.toks) fun b o e => Heap.get?_push_of_some _ e, turn_tuple a _, ⟨_, Heap.get?_push_size _ rfl, rfl, rfl⟩, fun b hb => ?_, q⟩
    have e : b = s1.heap.objs.size := by simpa using hb
    subst e
    exact I1.fpOk (Nat.le_refl _) (I1.hok.fresh (Nat.le_refl _))
  · obtain ⟨t, rfl⟩ := r1
    cases ha : x.cps.all (· < 128)
    · exact wpAny_pyIter_wide ha (pi_one (tk := s1.toks) I1 _ (turn_str _ x t "str_iterator" (.inr rfl)) ⟨_, Heap.get?_push_size _ rfl, rfl, rfl⟩ q)
    · exact wpAny_pyIter_ascii ha (pi_one (tk := s1.toks) I1 _ (turn_str _ x t "str_ascii_iterator" (.inl rfl)) ⟨_, Heap.get?_push_size _ rfl, rfl, rfl⟩ q)
/-- the items of data -/
def itsP : PV → Option (List PV)
  | .lst xs => some xs
  | .tup xs => some xs
  | .str x => some (x.map fun n => .str [n])
  | .scr ns => some (ns.map PV.int)
  | _ => none
def dIt (a : DE) : DI := fun ρ hs => match a ρ hs with
  | none => none
  | some (x, h1) => match itsP x with
    | none => none
    | some xs => some (xs, h1)
section
variable {K : PySem.W.Frag} {hd : Option Addr} {F H B : Hp} {ps : List PV} {a : Addr} {vs : List V}
/-- walks that hand on items that stand -/
theorem ItOk.at {J : It} {Gd : Hp → Prop} (w : Walk J vs.length Gd (YAt vs)) (st : ∀ H', (∀ b o, B b = some o → some b ≠ hd → H' b = some o) → Gd H') (r : RpL K hd F vs ps) : ItOk K hd B J ps F H := by
  refine ⟨Gd, YAt vs, by rw [← r.length]; exact w, st, fun i F' H' x H'' s cx _ hi y => ?_⟩
  obtain ⟨rfl, y⟩ := y
  obtain ⟨p, h1, h2⟩ := r.get' y
  exact ⟨F', p, Step.refl cx.sub, h1, h2.mono s⟩
theorem Ctx.fne (x : Ctx hd F H) {b : Addr} {o : HO} (e : F b = some o) : some b ≠ hd := fun z => by
  have := (x.hdn b z.symm).2
  rw [e] at this
  cases this
theorem sqT_st (x : Ctx hd F H) (e : SqT K F a vs) : ∀ H', (∀ b o, F b = some o → some b ≠ hd → H' b = some o) → SqT K H' a vs := fun H' k => Sub.sqT (fun b o q => k b o q (x.fne q)) e
theorem str_items (z : Str) : ∀ (i : Nat) (c : Nat), z.cps[i]? = some c → (z.cps.toList.map fun n => PV.str [n])[i]? = some (.str [c]) := fun i c h => by
  rw [List.getElem?_map]
  have : z.cps.toList[i]? = some c := by simpa using h
  rw [this]
  rfl
end
section
variable {X : Cx} {c : Fc} {tg e : Expr} {da : DE}
theorem seq_imp {fz : Bool} {m : Md} (hm : m = if fz = true then .fz else .bw) (hK : X.K = c.K) (σ : L2.St) (H : Hp) (R : It → Hp → Prop) (h : tI c fz (dIt da) σ H R) : iSeq X.K (tP c m da) σ H R := by
  obtain ⟨F, ρ, hs, ps, hs', g, e, k⟩ := h
  unfold dIt at e
  split at e
  · cases e
  rename_i x h1 e1
  split at e
  · cases e
  rename_i xs e2
  cases e
  rw [hK]
  refine ⟨F, ρ, hs, x, hs', g, e1, fun v F1 H1 s1 g1 r1 => ?_⟩
  have cx := g1.ctx
  cases x with
  | lst qs =>
    cases e2
    refine .inl ?_
    cases fz with
    | true =>
      rw [hm] at r1
      cases r1 with
      | lst hq hl => exact ⟨_, rfl, ⟨_, SqL.of (cx.sub _ _ hq)⟩, k _ F1 H1 s1 g1 (ItOk.at walk_list (fun H' kk => SqL.of (kk _ _ hq (cx.fne hq))) hl)⟩
    | false =>
      obtain ⟨a, vs, rfl, hq, hl⟩ := RpB.lst cx.sub r1.bw
      refine ⟨a, rfl, ⟨_, SqL.of hq⟩, k _ F1 H1 s1 g1 ?_⟩
      have hne : some a ≠ c.hd := by
        rcases r1.bw with r | ⟨a', o, e', h2, h3, h4, h5⟩
        · cases r with
          | lst hq' _ => exact cx.fne hq'
        · cases e'
          exact h4
      exact ItOk.at walk_list (fun H' kk => SqL.of (kk _ _ hq hne)) hl
  | tup qs =>
    cases e2
    obtain ⟨a, vs, rfl, hq, hl⟩ := RpB.tup r1.bw
    refine .inr (.inl ⟨a, rfl, ⟨_, SqT.of (cx.sub _ _ hq)⟩, k _ F1 H1 s1 g1 ?_⟩)
    refine ItOk.at walk_tup (fun H' kk => sqT_st cx (SqT.of hq) H' fun b o eb ne => kk b o ?_ ne) hl
    cases fz with
    | true => exact eb
    | false => exact cx.sub b o eb
  | str z =>
    cases e2
    obtain ⟨y, rfl, ez⟩ := RpB.str r1.bw
    subst ez
    refine .inr (.inr ⟨y, rfl, k _ F1 H1 s1 g1 ?_⟩)
    refine ⟨fun _ => True, _, by simpa using walk_str (z := y), fun _ _ => trivial, fun i F' H' x H'' s cx' _ hi q => ?_⟩
    obtain ⟨rfl, n, hn, rfl⟩ := q
    exact ⟨F', _, Step.refl cx'.sub, str_items y i n hn, by
      have h0 := Rp.str (K := c.K) (hd := c.hd) (F := F') (⟨#[n]⟩ : Str)
      exact h0⟩
  | scr ns =>
    cases e2
    obtain ⟨a, rfl, hq⟩ := RpB.scr cx.sub r1.bw
    refine .inl ⟨a, rfl, ⟨_, cx.sub.sqL hq⟩, k _ F1 H1 s1 g1 ?_⟩
    have st : ∀ H', (∀ b o, F1 b = some o → some b ≠ c.hd → H' b = some o) → SqL c.K H' a (ns.map V.int) := fun H' kk => Sub.sqL (fun b o q => kk b o q (cx.fne q)) hq
    refine ItOk.at walk_list (fun H' kk => st H' fun b o eb ne => kk b o ?_ ne) (RpL.ints ns)
    cases fz with
    | true => exact eb
    | false => exact cx.sub b o eb
  | non => cases e2
  | bl _ => cases e2
  | int _ => cases e2
  | dct _ => cases e2
  | dcT _ => cases e2
  | hand => cases e2
theorem i_fz (h : PEp X c .fz e da) (hK : X.K = c.K := by rfl) : PIt X c true tg e (dIt da) := pi_imp (pi_seq h) (seq_imp rfl hK)
theorem i_bw (h : PEp X c .bw e da) (hK : X.K = c.K := by rfl) : PIt X c false tg e (dIt da) := pi_imp (pi_seq h) (seq_imp rfl hK)
end

/-! ranges -/
def rngL (lo : Int) (n : Nat) : List PV := (List.range n).map fun (i : Nat) => PV.int (lo + i)
theorem rngL_len (lo : Int) (n : Nat) : (rngL lo n).length = n := by simp [rngL]
theorem rng_ok {K : PySem.W.Frag} {hd : Option Addr} {B F H : Hp} {lo : Int} {n : Nat} : ItOk K hd B (Itr lo n) (rngL lo n) F H := by
  refine ⟨fun _ => True, _, by rw [rngL_len]; exact walk_range, fun _ _ => trivial, fun i F' H' x H'' s cx _ hi y => ?_⟩
  obtain ⟨rfl, rfl⟩ := y
  rw [rngL_len] at hi
  exact ⟨F', .int (lo + i), Step.refl cx.sub, by simp [rngL, hi], .int _⟩
/-- the numbers of range(..), within ± 2^62 -/
def rngP : List PV → Option (List PV)
  | [.int j] => if -(2 ^ 62) ≤ j ∧ j < 2 ^ 62 then some (rngL 0 j.toNat) else none
  | [.int i, .int j] => if -(2 ^ 62) ≤ i ∧ i < 2 ^ 62 ∧ -(2 ^ 62) ≤ j ∧ j < 2 ^ 62 then some (rngL i (j - i).toNat) else none
  | _ => none
def dItA (op : List PV → Option (List PV)) (a : DA) : DI := fun ρ hs => match a ρ hs with
  | none => none
  | some (x, h1) => match op x with
    | none => none
    | some xs => some (xs, h1)
theorem dItA_some {op : List PV → Option (List PV)} {a : DA} {ρ : Rho} {hs hs' : HS} {z : List PV} (h : dItA op a ρ hs = some (z, hs')) :
    ∃ xs, a ρ hs = some (xs, hs') ∧ op xs = some z := by
  unfold dItA at h
  split at h
  · cases h
  · rename_i x h1 e1
    split at h
    · cases h
    · rename_i z' e3
      cases h
      exact ⟨x, e1, e3⟩
section
variable {X : Cx} {c : Fc} {tg a b : Expr} {ds : DA} {p pos : Pos} {fz : Bool}
theorem RpLM.inv1 {m : Md} {K : PySem.W.Frag} {hd : Option Addr} {He F H : Hp} {vs : List V} {q : PV} (r : RpLM m K hd He F H vs [q]) : ∃ v, vs = [v] ∧ RpM m K hd He F H v q := by
  cases r with
  | cons a b => cases b; exact ⟨_, rfl, a⟩
theorem RpLM.inv2 {m : Md} {K : PySem.W.Frag} {hd : Option Addr} {He F H : Hp} {vs : List V} {q r : PV} (h : RpLM m K hd He F H vs [q, r]) : ∃ v w, vs = [v, w] ∧ RpM m K hd He F H v q ∧ RpM m K hd He F H w r := by
  cases h with
  | cons a b => cases b with
    | cons a' b => cases b; exact ⟨_, _, rfl, a, a'⟩
theorem RpLM.inv3 {m : Md} {K : PySem.W.Frag} {hd : Option Addr} {He F H : Hp} {vs : List V} {q r t : PV} (h : RpLM m K hd He F H vs [q, r, t]) : ∃ v w u, vs = [v, w, u] ∧ RpM m K hd He F H v q ∧ RpM m K hd He F H w r ∧ RpM m K hd He F H u t := by
  cases h with
  | cons a b => cases b with
    | cons a' b => cases b with
      | cons a'' b => cases b; exact ⟨_, _, _, rfl, a, a', a''⟩
theorem i_range1 (hg : Gl X "range") (hm : X.mg "range" = none) (ha : PAp X c .bw [a] ds) (hl : ∀ ρ hs xs h1, ds ρ hs = some (xs, h1) → xs.length = 1) (hs : starEach [a] X.env = [(false, eval a X.env)] := by rfl) : PIt X c fz tg (.Call (.Name "range" p) [a] [] pos) (dItA rngP ds) :=
  pi_imp (pi_range1 hg hm ha hs) fun σ H R ⟨F, ρ, hs, ps, hs', g, e, k⟩ => by
    obtain ⟨xs, e1, e3⟩ := dItA_some e
    refine ⟨F, ρ, hs, xs, hs', g, e1, fun vs F1 H1 s1 g1 r1 => ?_⟩
    have hx := hl _ _ _ _ e1
    obtain ⟨q, rfl⟩ : ∃ q, xs = [q] := by
      match xs, hx with
      | [q], _ => exact ⟨q, rfl⟩
    obtain ⟨v, rfl, r⟩ := r1.inv1
    cases q with
    | int j =>
      have ev := RpB.int r.bw
      subst ev
      have e3 : (if -(2 ^ 62) ≤ j ∧ j < 2 ^ 62 then some (rngL 0 j.toNat) else none) = some ps := e3
      split at e3
      · rename_i hj
        cases e3
        exact ⟨j, rfl, hj.1, hj.2, k _ F1 H1 s1 g1 rng_ok⟩
      · cases e3
    | _ => cases e3
theorem i_range2 (hg : Gl X "range") (hm : X.mg "range" = none) (ha : PAp X c .bw [a, b] ds) (hl : ∀ ρ hs xs h1, ds ρ hs = some (xs, h1) → xs.length = 2) (hs : starEach [a, b] X.env = [(false, eval a X.env), (false, eval b X.env)] := by rfl) (hs2 : starEach [b] X.env = [(false, eval b X.env)] := by rfl) : PIt X c fz tg (.Call (.Name "range" p) [a, b] [] pos) (dItA rngP ds) :=
  pi_imp (pi_range2 hg hm ha hs hs2) fun σ H R ⟨F, ρ, hs, ps, hs', g, e, k⟩ => by
    obtain ⟨xs, e1, e3⟩ := dItA_some e
    refine ⟨F, ρ, hs, xs, hs', g, e1, fun vs F1 H1 s1 g1 r1 => ?_⟩
    have hx := hl _ _ _ _ e1
    obtain ⟨q, q', rfl⟩ : ∃ q q', xs = [q, q'] := by
      match xs, hx with
      | [q, q'], _ => exact ⟨q, q', rfl⟩
    obtain ⟨v, w, rfl, r, r'⟩ := r1.inv2
    cases q with
    | int i =>
      cases q' with
      | int j =>
        have ev := RpB.int r.bw
        have ew := RpB.int r'.bw
        subst ev ew
        have e3 : (if -(2 ^ 62) ≤ i ∧ i < 2 ^ 62 ∧ -(2 ^ 62) ≤ j ∧ j < 2 ^ 62 then some (rngL i (j - i).toNat) else none) = some ps := e3
        split at e3
        · rename_i hj
          cases e3
          exact ⟨i, j, rfl, hj, k _ F1 H1 s1 g1 rng_ok⟩
        · cases e3
      | _ => cases e3
    | _ => cases e3
end
theorem len1 {a : DE} : ∀ ρ hs xs h1, dCons a dNil ρ hs = some (xs, h1) → xs.length = 1 := fun ρ hs xs h1 e => by
  obtain ⟨x, h, ys, e1, e2, rfl⟩ := dCons_some e
  cases e2
  rfl
theorem len2 {a b : DE} : ∀ ρ hs xs h1, dCons a (dCons b dNil) ρ hs = some (xs, h1) → xs.length = 2 := fun ρ hs xs h1 e => by
  obtain ⟨x, h, ys, e1, e2, rfl⟩ := dCons_some e
  have := len1 _ _ _ _ e2
  simp [this]
theorem lenS {n : Nat} {a : DE} {b : DA} (h : ∀ ρ hs xs h1, b ρ hs = some (xs, h1) → xs.length = n) : ∀ ρ hs xs h1, dCons a b ρ hs = some (xs, h1) → xs.length = n + 1 := fun ρ hs xs h1 e => by
  obtain ⟨x, h', ys, e1, e2, rfl⟩ := dCons_some e
  have := h _ _ _ _ e2
  simp [this]
theorem len0 : ∀ ρ hs xs h1, dNil ρ hs = some (xs, h1) → xs.length = 0 := fun ρ hs xs h1 e => by
  cases e
  rfl

/-! ### targets (frozen values to names) -/
abbrev DG := PV → Rho → Option Rho
def dgN (i : Nat) : DG := fun p ρ => some (ρ.set i (some (.val p)))
abbrev DGs := List PV → Rho → Option Rho
def dgNil : DGs := fun ps ρ => match ps with
  | [] => some ρ
  | _ => none
def dgCons (g : DG) (gs : DGs) : DGs := fun ps ρ => match ps with
  | [] => none
  | p :: ps => match g p ρ with
    | none => none
    | some ρ' => gs ps ρ'
/-- a tuple's items -/
def dgT (n : Nat) (gs : DGs) : DG := fun p ρ => match p with
  | .tup ps => if ps.length = n then gs ps ρ else none
  | _ => none
/-- the slots but ws are as they were -/
def But (ws : List Nat) (σ σ' : L2.St) : Prop := σ'.length = σ.length ∧ ∀ j, j ∉ ws → σ'[j]? = σ[j]?
def tG (c : Fc) (ws : List Nat) (d : DG) : TG := fun v σ H Q => ∃ F ρ hs p ρ', G c F H σ ρ hs ∧ Rp c.K c.hd F v p ∧ d p ρ = some ρ' ∧ ∀ σ', G c F H σ' ρ' hs → But ws σ σ' → Q σ' H
def tGs (c : Fc) (ws : List Nat) (d : DGs) : TGs := fun vs σ H Q => ∃ F ρ hs ps ρ', G c F H σ ρ hs ∧ RpL c.K c.hd F vs ps ∧ d ps ρ = some ρ' ∧ ∀ σ', G c F H σ' ρ' hs → But ws σ σ' → Q σ' H
theorem But.trans {ws vs : List Nat} {σ σ1 σ2 : L2.St} (a : But ws σ σ1) (b : But vs σ1 σ2) : But (ws ++ vs) σ σ2 := ⟨b.1.trans a.1, fun j h => by
  rw [List.mem_append, not_or] at h
  exact (b.2 j h.2).trans (a.2 j h.1)⟩
theorem pg_imp {X : Cx} {tg : Expr} {t t' : TG} (h : PG X tg t) (k : ∀ v σ H Q, t' v σ H Q → t v σ H Q) : PG X tg t' := ⟨fun pins s σ H v u Q I r hw => h.run pins s σ H v u Q I r (k v σ H Q hw)⟩
theorem pgs_imp {X : Cx} {tg : List Expr} {t t' : TGs} (h : PGs X tg t) (k : ∀ v σ H Q, t' v σ H Q → t v σ H Q) : PGs X tg t' := ⟨fun pins s σ H v u Q I r hw => h.run pins s σ H v u Q I r (k v σ H Q hw)⟩
section
variable {c : Fc} {F H : Hp} {σ : L2.St} {ρ : Rho} {hs : HS} {v : V} {p : PV}
/-- a slot is given a value -/
theorem G.put (g : G c F H σ ρ hs) (i : Nat) {s : SV} (r : SlotOk c F H v s) (sp : ∀ q, s = .own q → ∀ (j : Nat) (q' : PV), ρ[j]? = some (some (.own q')) → σ[j]? ≠ some (some v)) :
    G c F H (σ.set i (some v)) (ρ.set i (some s)) hs := by
  refine ⟨g.st, by rw [List.length_set, List.length_set]; exact g.len, fun j t e => ?_, fun j k q q' a ne e1 e2 e3 => ?_, g.hand⟩
  · by_cases hj : i = j
    · subst hj
      have hl : i < ρ.length := by
        by_cases q : i < ρ.length
        · exact q
        · rw [List.getElem?_eq_none (by rw [List.length_set]; omega)] at e; cases e
      rw [List.getElem?_set_self hl] at e
      cases e
      exact ⟨v, List.getElem?_set_self (by rw [g.len]; exact hl), r⟩
    · rw [List.getElem?_set_ne hj] at e
      obtain ⟨w, h1, h2⟩ := g.slot j t e
      exact ⟨w, by rw [List.getElem?_set_ne hj]; exact h1, h2⟩
  · by_cases hj : i = j
    · subst hj
      have hl : i < ρ.length := by
        by_cases q : i < ρ.length
        · exact q
        · rw [List.getElem?_eq_none (by rw [List.length_set]; omega)] at e1; cases e1
      rw [List.getElem?_set_self hl] at e1
      cases e1
      rw [List.getElem?_set_self (by rw [g.len]; exact hl)] at e3
      cases e3
      rw [List.getElem?_set_ne ne] at e2 ⊢
      exact sp q rfl k q' e2
    · rw [List.getElem?_set_ne hj] at e1 e3
      by_cases hk : i = k
      · subst hk
        have hl : i < ρ.length := by
          by_cases q : i < ρ.length
          · exact q
          · rw [List.getElem?_eq_none (by rw [List.length_set]; omega)] at e2; cases e2
        rw [List.getElem?_set_self hl] at e2
        cases e2
        rw [List.getElem?_set_self (by rw [g.len]; exact hl)]
        intro z
        cases z
        exact sp q' rfl j q e1 e3
      · rw [List.getElem?_set_ne hk] at e2 ⊢
        exact g.sep j k q q' a ne e1 e2 e3
theorem G.val (g : G c F H σ ρ hs) (i : Nat) (r : Rp c.K c.hd F v p) : G c F H (σ.set i (some v)) (ρ.set i (some (.val p))) hs := g.put i (s := .val p) r fun q z => by cases z
end
section
variable {X : Cx} {c : Fc} {e : Expr} {es : List Expr} {pos : Pos} {dg : DG} {dgs : DGs}
theorem g_name {i : Nat} (h : PG X e (gName i)) : PG X e (tG c [i] (dgN i)) := pg_imp h fun v σ H Q ⟨F, ρ, hs, p, ρ', g, r, e, k⟩ => by
  cases e
  exact k _ (g.val i r) ⟨List.length_set .., fun j hj => List.getElem?_set_ne (fun z => hj (by simp [z]))⟩
theorem gs_nil : PGs X [] (tGs c [] dgNil) := pgs_imp pgs_nil fun v σ H Q ⟨F, ρ, hs, p, ρ', g, r, e, k⟩ => by
  cases r with
  | nil => cases e; exact ⟨rfl, k _ g ⟨rfl, fun _ _ => rfl⟩⟩
  | cons _ _ => cases e
theorem gs_cons {ws vs : List Nat} (h : PG X e (tG c ws dg)) (h' : PGs X es (tGs c vs dgs)) (hs : (assignEach (e :: es) X.env).map (·.2) = assign e X.env :: (assignEach es X.env).map (·.2) := by rfl) : PGs X (e :: es) (tGs c (ws ++ vs) (dgCons dg dgs)) :=
  pgs_imp (pgs_cons h h' hs) fun vs σ H Q ⟨F, ρ, hs, ps, ρ', g, r, e, k⟩ => by
    cases r with
    | nil => cases e
    | @cons v p vs ps rv rr =>
      have e : (match dg p ρ with | none => none | some ρ' => dgs ps ρ') = some ρ' := e
      split at e
      · cases e
      · rename_i ρ1 e1
        exact ⟨v, vs, rfl, F, ρ, hs, p, ρ1, g, rv, e1, fun σ1 g1 b1 => ⟨F, ρ1, hs, ps, ρ', g1, rr, e, fun σ2 g2 b2 => k σ2 g2 (b1.trans b2)⟩⟩
theorem g_tup {k : Nat} {n : Nat} {ws : List Nat} (hc : X.calm = true) (h : PGs X es (tGs c ws dgs)) (hn : (assignEach es X.env).length = n := by rfl) (hst : (assignEach es X.env).findIdx? (·.1) = none := by rfl) (hK : X.K = c.K := by rfl) : PG X (.Tuple es k pos) (tG c ws (dgT n dgs)) :=
  pg_imp (pg_tup hc h hn hst) fun v σ H Q ⟨F, ρ, hs, p, ρ', g, r, e, k⟩ => by
    cases p with
    | tup ps =>
      have e : (if ps.length = n then dgs ps ρ else none) = some ρ' := e
      split at e
      · rename_i hl
        cases r with
        | tup hq hr => exact ⟨_, _, rfl, SqT.of (g.sub _ _ hq), by rw [hr.length]; exact hl, F, ρ, hs, ps, ρ', g, hr, e, k⟩
      · cases e
    | _ => cases e
end

/-! ### comprehensions -/
def wipeR (ρ : Rho) : List Nat → Rho
  | [] => ρ
  | v :: vs => (wipeR ρ vs).set v none
def lcGo (tg : DG) (tt : DT) (te : DE) (ρ : Rho) : List PV → HS → Option (List PV × HS)
  | [], hs => some ([], hs)
  | p :: ps, hs => match tg p ρ with
    | none => none
    | some ρ1 => match tt ρ1 hs with
      | none => none
      | some (true, h1) => (match te ρ1 h1 with
        | none => none
        | some (y, h2) => match lcGo tg tt te ρ ps h2 with
          | none => none
          | some (ys, h3) => some (y :: ys, h3))
      | some (false, h1) => lcGo tg tt te ρ ps h1
/-- [elt for tg in it if tt] -/
def dLc (vs : List Nat) (it : DI) (tg : DG) (tt : DT) (te : DE) : DE := fun ρ hs => match it ρ hs with
  | none => none
  | some (ps, h1) => if ps.length ≤ sizeLine then (match lcGo tg tt te (wipeR ρ vs) ps h1 with
    | none => none
    | some (ys, h2) => some (.lst ys, h2)) else none
def dYes : DT := fun _ hs => some (true, hs)
section
variable {c : Fc} {F H : Hp} {σ : L2.St} {ρ : Rho} {hs : HS}
theorem G.unset (g : G c F H σ ρ hs) (i : Nat) : G c F H (σ.set i none) (ρ.set i none) hs := by
  refine ⟨g.st, by rw [List.length_set, List.length_set]; exact g.len, fun j t e => ?_, fun j k q q' a ne e1 e2 e3 => ?_, g.hand⟩
  · by_cases hj : i = j
    · subst hj
      by_cases hl : i < ρ.length
      · rw [List.getElem?_set_self hl] at e; cases e
      · rw [List.getElem?_eq_none (by rw [List.length_set]; omega)] at e; cases e
    · rw [List.getElem?_set_ne hj] at e ⊢
      exact g.slot j t e
  · have hj : i ≠ j := fun z => by
      subst z
      by_cases hl : i < ρ.length
      · rw [List.getElem?_set_self hl] at e1; cases e1
      · rw [List.getElem?_eq_none (by rw [List.length_set]; omega)] at e1; cases e1
    have hk : i ≠ k := fun z => by
      subst z
      by_cases hl : i < ρ.length
      · rw [List.getElem?_set_self hl] at e2; cases e2
      · rw [List.getElem?_eq_none (by rw [List.length_set]; omega)] at e2; cases e2
    rw [List.getElem?_set_ne hj] at e1 e3
    rw [List.getElem?_set_ne hk] at e2 ⊢
    exact g.sep j k q q' a ne e1 e2 e3
theorem G.wipe (g : G c F H σ ρ hs) : ∀ vs, G c F H (L2.wipe σ vs) (wipeR ρ vs) hs
  | [] => g
  | v :: vs => (G.wipe g vs).unset v
/-- an object that nothing here knows changes -/
theorem G.upd {D : Addr} {o o' : HO} (g : G c F H σ ρ hs) (h0 : c.H0 D = none) (hf : F D = none) (hd : H D = some o) (nh : some D ≠ c.hd) (no : ∀ (i : Nat) (q : PV), ρ[i]? = some (some (.own q)) → σ[i]? ≠ some (some (.ref D))) : G c F (L2.upd H D o') σ ρ hs := by
  refine ⟨⟨fun b u e ne => ?_, fun b e n => ?_, g.st.mono, g.st.sub.uR hf, g.st.old⟩, g.len, fun i s e => ?_, g.sep, fun h e => ?_⟩
  · rw [upd_ne (ne_of_none e h0)]; exact g.st.ext b u e ne
  · rw [upd_ne (fun z => n (by rw [z]; exact h0))]; exact g.st.hdk b e n
  · obtain ⟨v, h1, h2⟩ := g.slot i s e
    refine ⟨v, h1, ?_⟩
    cases s with
    | val p => exact h2
    | own p =>
      obtain ⟨a, u, rfl, q1, q2⟩ := h2
      exact ⟨a, u, rfl, by rw [upd_ne (fun z => no i p e (by rw [← z]; exact h1))]; exact q1, q2⟩
  · obtain ⟨vs, q1, q2⟩ := g.hand h e
    exact ⟨vs, by rw [upd_ne (fun z => nh (by rw [← z, e]))]; exact q1, q2⟩
end
theorem wipe_get (σ : L2.St) : ∀ (vs : List Nat) (i : Nat), (L2.wipe σ vs)[i]? = if i ∈ vs ∧ i < σ.length then some none else σ[i]?
  | [], i => by simp [L2.wipe]
  | v :: vs, i => by
    have ih := wipe_get σ vs i
    have hl := L2.wipe_length σ vs
    show ((L2.wipe σ vs).set v none)[i]? = _
    by_cases h : v = i
    · subst h
      by_cases hv : v < σ.length
      · rw [List.getElem?_set_self (by omega), if_pos ⟨by simp, hv⟩]
      · rw [if_neg (by simp [hv]), List.getElem?_eq_none (by rw [List.length_set]; omega), List.getElem?_eq_none (by omega)]
    · rw [List.getElem?_set_ne h, ih]
      have : (i ∈ v :: vs ∧ i < σ.length) ↔ (i ∈ vs ∧ i < σ.length) := by simp [show ¬ i = v from fun z => h z.symm]
      simp only [this]
theorem wipe_but {σ σ2 : L2.St} {vs ws : List Nat} (b : But ws (L2.wipe σ vs) σ2) (h : ∀ j ∈ ws, j ∈ vs) : L2.wipe σ2 vs = L2.wipe σ vs := by
  have hl : σ2.length = σ.length := b.1.trans (L2.wipe_length σ vs)
  refine List.ext_getElem? fun i => ?_
  rw [wipe_get, wipe_get, hl]
  by_cases q : i ∈ vs ∧ i < σ.length
  · rw [if_pos q, if_pos q]
  · rw [if_neg q, if_neg q]
    by_cases hi : i < σ.length
    · have nv : i ∉ vs := fun z => q ⟨z, hi⟩
      rw [b.2 i (fun z => nv (h i z)), wipe_get, if_neg q]
    · rw [List.getElem?_eq_none (by omega), List.getElem?_eq_none (by omega)]
section
variable {X : Cx} {c : Fc} {elt tg iter : Expr} {ifs : List Expr} {scope : Scope} {own : List (Str × Nat)} {pos : Pos} {di : DI} {dg : DG} {dt : DT} {de : DE} {ws : List Nat}
theorem lc_imp {vs : List Nat} (hw : ∀ j ∈ ws, j ∈ vs) (σ : L2.St) (H : Hp) (Q : VK) (h : tP c .fr (dLc vs di dg dt de) σ H Q) : tLc (tI c false di) (tG c ws dg) (tPT c dt) (tP c .fz de) vs σ H Q := by
  obtain ⟨F, ρ, hs, z, hs', g, e, k⟩ := h
  unfold dLc at e
  split at e
  · cases e
  rename_i ps h1 e1
  split at e
  case isFalse => cases e
  rename_i hz
  split at e
  · cases e
  rename_i ys h2 e2
  cases e
  refine ⟨F, ρ, hs, ps, h1, g, e1, fun J F1 H1 s1 g1 it D hD => ?_⟩
  obtain ⟨Gd, Y, w, st, y⟩ := it.ex
  have nD : some D ≠ c.hd := g1.ctx.ne hD
  have h0D : c.H0 D = none := g1.st.free hD
  have noD : ∀ (i : Nat) (q : PV), ρ[i]? = some (some (.own q)) → σ[i]? ≠ some (some (.ref D)) := fun i q e1 e2 => by
    obtain ⟨v, q1, a, o, rfl, q2, _⟩ := g1.slot i _ e1
    rw [q1] at e2
    cases e2
    rw [hD] at q2
    cases q2
  refine lc_it w (fun i H' => ∃ F' hi acc vs' rest, Step c.hd F1 H1 F' H' ∧ G c F' H' σ ρ hi ∧ H' D = some (.lst vs') ∧ F' D = none ∧ RpL c.K c.hd F' vs' acc ∧ vs'.length ≤ i ∧ lcGo dg dt de (wipeR ρ vs) (ps.drop i) hi = some (rest, hs') ∧ ys = acc ++ rest)
    ⟨F1, h1, [], [], ys, Step.new g1.sub hD, (g1.pure (Step.new g1.sub hD)), upd_same, g1.sub.none hD, .nil, Nat.le_refl _, by simpa using e2, rfl⟩ (fun i H' _ ⟨F', hi, acc, vs', rest, s2, _⟩ => st H' s2.ext) ?_ ?_
  · rintro i x H' H'' hi ⟨F', hsi, acc, vs', rest, s2, g2, d1, d2, d3, d4, d5, d6⟩ hy
    obtain ⟨F'', p, s3, e3, r3⟩ := y i F' H' x H'' s2.mono g2.ctx (fun b o e ne => s2.ext b o e ne) hi hy
    have hdrop : ps.drop i = p :: ps.drop (i + 1) := by
      obtain ⟨q1, q2⟩ := List.getElem?_eq_some_iff.mp e3
      rw [List.drop_eq_getElem_cons q1, q2]
    rw [hdrop] at d5
    unfold lcGo at d5
    split at d5
    · cases d5
    rename_i ρ1 e4
    have g3 : G c F'' H'' σ ρ hsi := g2.pure s3
    have D3 : H'' D = some (.lst vs') := s3.ext D _ d1 (fun z => nomatch z)
    have F3 : F'' D = none := (s3.old D (by rw [d1]; exact fun z => nomatch z)).trans d2
    have s13 : Step c.hd F1 H1 F'' H'' := s2.trans (s3.wide _)
    refine ⟨F'', wipeR ρ vs, hsi, p, ρ1, g3.wipe vs, r3, e4, fun σ2 g4 b4 => ⟨wipe_but b4 hw, ?_⟩⟩
    split at d5
    · cases d5
    · rename_i h3 e5
      split at d5
      · cases d5
      rename_i yv h4 e6
      split at d5
      · cases d5
      rename_i ys' h5 e7
      cases d5
      refine ⟨F'', ρ1, hsi, true, h3, g4, e5, fun F5 H5 s5 g5 => ?_⟩
      refine iteT ?_
      refine ⟨F5, ρ1, h3, yv, h4, g5, e6, fun v F6 H6 s6 g6 r6 => ?_⟩
      have s36 := s5.trans s6
      have D6 : H6 D = some (.lst vs') := s36.ext D _ D3 nD
      have F6' : F6 D = none := (s36.old D (by rw [D3]; exact fun z => nomatch z)).trans F3
      have g7 : G c F6 H6 σ ρ h4 := g3.step s36 g6.hand
      have hlen : vs'.length < sizeLine := by omega
      refine ⟨vs', D6, hlen, F6, h4, acc ++ [yv], vs' ++ [v], ys', ?_, g7.upd h0D F6' D6 nD noD, upd_same, F6', (d3.mono (s3.mono.trans s36.mono)).append (.cons r6 .nil), by simp; omega, e7, by rw [d6]; simp⟩
      have s17 := s13.trans s36
      refine ⟨fun b u e ne => by rw [upd_ne (ne_of_none e hD)]; exact s17.ext b u e ne, fun b e n => ?_, s17.mono, s17.sub.uR F6', s17.old⟩
      rw [upd_ne (fun z => n (by rw [z]; exact hD))]
      exact s17.hdk b e n
    · rename_i h3 e5
      refine ⟨F'', ρ1, hsi, false, h3, g4, e5, fun F5 H5 s5 g5 => ?_⟩
      refine iteF ?_
      refine ⟨F5, h3, acc, vs', rest, s13.trans s5, g3.step s5 g5.hand, s5.ext D _ D3 nD, (s5.old D (by rw [D3]; exact fun z => nomatch z)).trans F3, d3.mono (s3.mono.trans s5.mono), by omega, d5, d6⟩
  · rintro H' ⟨F', hsi, acc, vs', rest, s2, g2, d1, d2, d3, d4, d5, d6⟩
    rw [List.drop_eq_nil_of_le (Nat.le_refl _)] at d5
    cases d5
    have s12 := s1.trans s2
    refine k _ F' H' s12 g2 ⟨D, .lst vs', rfl, s1.free hD, d1, d2, nD, ?_⟩
    rw [d6, List.append_nil]
    exact d3
theorem p_lc (hc : X.calm = true) (hN : X.N.Nodup) (hi : PIt X c false tg iter di) (ok : BlkOk X.N X.env.scope scope own) (hw : ∀ j ∈ ws, j ∈ own.map (·.2))
    (hg : ∀ (s : Shared) (H : Hp) (C : Addr) (cl : List (Str × Addr)) (fp : List Addr), PG (X.blk s H scope (compEnvC scope cl C X.env) fp) tg (tG c ws dg)) (ht : ∀ (s : Shared) (H : Hp) (C : Addr) (cl : List (Str × Addr)) (fp : List Addr), PTs (X.blk s H scope (compEnvC scope cl C X.env) fp) ifs (tPT c dt))
    (he : ∀ (s : Shared) (H : Hp) (C : Addr) (cl : List (Str × Addr)) (fp : List Addr), PEp (X.blk s H scope (compEnvC scope cl C X.env) fp) c .fz elt de) (hs : ∀ x, foldedSetIterable iter X.env x = pure x := by intro _; rfl) :
    PEp X c .fr (.ListComp elt [⟨tg, iter, ifs, 0⟩] scope pos) (dLc (own.map (·.2)) di dg dt de) := pe_imp (pe_lc hc hN hi ok hg ht he hs) (lc_imp hw)
theorem pts_y : PTs X [] (tPT c dYes) := ⟨fun pins s σ H Q I ⟨F, ρ, hs, z, hs', g, e, k⟩ => by
  cases e
  exact pts_nil.run pins s σ H Q I (k F H (Step.refl g.sub) g)⟩
theorem pts_1 {f : Expr} (h : PTp X c f dt) : PTs X [f] (tPT c dt) := pts_one h
end
end PL

set_option Elab.async false
set_option linter.all false
set_option maxRecDepth 100000
set_option maxHeartbeats 1000000
/-! PL, part e: statements. -/
namespace PL
open PySem PySem.Spec PyProof.Rows L2

def dsSkip : DS := fun ρ hs => some (.nx ρ hs)
def dsNever : DS := fun _ _ => none
def dsSeq (a b : DS) : DS := fun ρ hs => match a ρ hs with
  | some (.nx ρ' hs') => b ρ' hs'
  | r => r
/-- name = e; mk: .val or .own -/
def dsSet (mk : PV → SV) (i : Nat) (d : DE) : DS := fun ρ hs => match d ρ hs with
  | none => none
  | some (p, h1) => some (.nx (ρ.set i (some (mk p))) h1)
def dsRet (d : DE) : DS := fun ρ hs => match d ρ hs with
  | none => none
  | some (p, h1) => some (.ret p h1)
def dsIf (t : DT) (a b : DS) : DS := fun ρ hs => match t ρ hs with
  | none => none
  | some (true, h1) => a ρ h1
  | some (false, h1) => b ρ h1
def dsDrop (d : DE) : DS := fun ρ hs => match d ρ hs with
  | none => none
  | some (_, h1) => some (.nx ρ h1)
def dsBrk : DS := fun ρ hs => some (.bk ρ hs)
def dsCnt : DS := fun ρ hs => some (.ct ρ hs)
def forGo (tg : DG) (b : DS) : List PV → DS
  | [], ρ, hs => some (.nx ρ hs)
  | p :: ps, ρ, hs => match tg p ρ with
    | none => none
    | some ρ1 => match b ρ1 hs with
      | some (.nx ρ' hs') => forGo tg b ps ρ' hs'
      | some (.ct ρ' hs') => forGo tg b ps ρ' hs'
      | some (.bk ρ' hs') => some (.nx ρ' hs')
      | some (.ret p hs') => some (.ret p hs')
      | none => none
def dsFor (tg : DG) (it : DI) (b : DS) : DS := fun ρ hs => match it ρ hs with
  | none => none
  | some (ps, h1) => forGo tg b ps ρ h1
def whileGo (t : DT) (b : DS) : Nat → DS
  | 0, _, _ => none
  | n + 1, ρ, hs => match t ρ hs with
    | none => none
    | some (false, h1) => some (.nx ρ h1)
    | some (true, h1) => match b ρ h1 with
      | some (.nx ρ' hs') => whileGo t b n ρ' hs'
      | some (.ct ρ' hs') => whileGo t b n ρ' hs'
      | some (.bk ρ' hs') => some (.nx ρ' hs')
      | some (.ret p hs') => some (.ret p hs')
      | none => none
/-- fuel: a million turns -/
def dsWhile (t : DT) (b : DS) : DS := whileGo t b 1000000
/-- the slot's own object becomes a value -/
def frzAt (i : Nat) (ρ : Rho) : Rho := match ρ[i]? with
  | some (some (.own p)) => ρ.set i (some (.val p))
  | _ => ρ
def dsFrz (i : Nat) (b : DS) : DS := fun ρ hs => b (frzAt i ρ) hs

section
variable {X : Cx} {c : Fc} {rm : Md} {st : Stmt} {rest body : List Stmt} {d1 d2 : DS} {e : Expr} {d : DE} {t : DT} {pos pos' : Pos}
/-- what a statement's end asks -/
def OutOk (c : Fc) (rm : Md) (D : Ends) (F : Hp) : Out → Prop
  | .nx ρ' hs' => ∀ σ' F' H', Sub F F' → G c F' H' σ' ρ' hs' → D.nx σ' H'
  | .bk ρ' hs' => ∀ σ' F' H', Sub F F' → G c F' H' σ' ρ' hs' → D.bk σ' H'
  | .ct ρ' hs' => ∀ σ' F' H', Sub F F' → G c F' H' σ' ρ' hs' → D.ct σ' H'
  | .ret p hs' => ∀ v F' H', Step c.hd c.F0 c.H0 F' H' → HandOk c.K c.hd F' H' hs' → RpM rm c.K c.hd c.H0 F' H' v p → D.rt v H'
theorem tPS_iff {d : DS} {D : Ends} {σ : L2.St} {H : Hp} : tPS c rm d D σ H ↔ ∃ F ρ hs o, G c F H σ ρ hs ∧ d ρ hs = some o ∧ OutOk c rm D F o := by
  unfold tPS
  constructor
  · rintro ⟨F, ρ, hs, o, g, e, k⟩
    refine ⟨F, ρ, hs, o, g, e, ?_⟩
    cases o <;> exact k
  · rintro ⟨F, ρ, hs, o, g, e, k⟩
    refine ⟨F, ρ, hs, o, g, e, ?_⟩
    cases o <;> exact k
theorem OutOk.mono {D : Ends} {F F' : Hp} {o : Out} (s : Sub F F') (h : OutOk c rm D F o) : OutOk c rm D F' o := by
  cases o with
  | nx ρ hs => exact fun σ' F'' H' s' g => h σ' F'' H' (s.trans s') g
  | bk ρ hs => exact fun σ' F'' H' s' g => h σ' F'' H' (s.trans s') g
  | ct ρ hs => exact fun σ' F'' H' s' g => h σ' F'' H' (s.trans s') g
  | ret p hs => exact h
/-- the rule for a statement, as one uses it -/
theorem ps_of {t : TS} {d : DS} (h : PS X st t) (k : ∀ D σ H F ρ hs o, G c F H σ ρ hs → d ρ hs = some o → OutOk c rm D F o → t D σ H) : PSp X c rm st d :=
  ps_imp h fun D σ H hq => by
    obtain ⟨F, ρ, hs, o, g, e, q⟩ := tPS_iff.mp hq
    exact k D σ H F ρ hs o g e q
theorem pss_of {t : TS} {d : DS} (h : PSs X rest t) (k : ∀ D σ H F ρ hs o, G c F H σ ρ hs → d ρ hs = some o → OutOk c rm D F o → t D σ H) : PSsp X c rm rest d :=
  pss_imp h fun D σ H hq => by
    obtain ⟨F, ρ, hs, o, g, e, q⟩ := tPS_iff.mp hq
    exact k D σ H F ρ hs o g e q
theorem tPS_mk {d : DS} {D : Ends} {σ : L2.St} {H F : Hp} {ρ : Rho} {hs : HS} {o : Out} (g : G c F H σ ρ hs) (e : d ρ hs = some o) (k : OutOk c rm D F o) : tPS c rm d D σ H := tPS_iff.mpr ⟨F, ρ, hs, o, g, e, k⟩

theorem ss_nil : PSsp X c rm [] dsSkip := pss_of pss_nil fun D σ H F ρ hs o g e q => by
  cases e
  exact q σ F H (Sub.refl F) g
theorem ss_cons (h1 : PSp X c rm st d1) (h2 : PSsp X c rm rest d2) : PSsp X c rm (st :: rest) (dsSeq d1 d2) := pss_of (pss_cons h1 h2) fun D σ H F ρ hs o g e q => by
  unfold dsSeq at e
  split at e
  · rename_i ρ1 h1 e1
    refine tPS_mk g e1 fun σ' F' H' s g' => ?_
    exact tPS_mk g' e (q.mono s)
  · rename_i hn
    refine tPS_mk g e ?_
    cases o with
    | nx ρ' hs' => exact absurd e (hn ρ' hs')
    | bk _ _ => exact q
    | ct _ _ => exact q
    | ret _ _ => exact q
theorem ss_one (h1 : PSp X c rm st d1) : PSsp X c rm [st] d1 := pss_of (pss_one h1) fun D σ H F ρ hs o g e q => tPS_mk g e q
theorem s_never : PSp X c rm st dsNever := ps_of ps_never fun D σ H F ρ hs o g e q => by cases e
theorem s_pass : PSp X c rm (.Pass pos) dsSkip := ps_of ps_pass fun D σ H F ρ hs o g e q => by
  cases e
  exact q σ F H (Sub.refl F) g
theorem s_break : PSp X c rm (.Break pos) dsBrk := ps_of ps_break fun D σ H F ρ hs o g e q => by
  cases e
  exact q σ F H (Sub.refl F) g
theorem s_continue : PSp X c rm (.Continue pos) dsCnt := ps_of ps_continue fun D σ H F ρ hs o g e q => by
  cases e
  exact q σ F H (Sub.refl F) g
theorem s_expr {m : Md} (h : PEp X c m e d) (hs : swapsWith e none pos.line X.env = pure false := by rfl) : PSp X c rm (.Expr e pos) (dsDrop d) := ps_of (ps_expr h hs) fun D σ H F ρ hs o g e q => by
  unfold dsDrop at e
  split at e
  · cases e
  · rename_i p h1 e1
    cases e
    exact ⟨F, ρ, hs, p, h1, g, e1, fun v F' H' s g' r => q σ F' H' s.mono g'⟩
/-- behind a call's frame: an object of this frame is handed back -/
theorem G.back {F H : Hp} {σ : L2.St} {ρ : Rho} {hs : HS} {He F' H' : Hp} {v : V} {p : PV} (g : G c F He σ ρ hs) (g' : G c F' H' σ ρ hs) (r : RpM rm c.K c.hd He F' H' v p) : RpM rm c.K c.hd c.H0 F' H' v p := r.he fun b => g.st.free
theorem s_ret (h : PEp X c rm e d) : PSp X c rm (.Return (some e) pos) (dsRet d) := ps_of (ps_ret h) fun D σ H F ρ hs o g e q => by
  unfold dsRet at e
  split at e
  · cases e
  · rename_i p h1 e1
    cases e
    exact ⟨F, ρ, hs, p, h1, g, e1, fun v F' H' s g' r => q v F' H' g'.st g'.hand (r.he fun b => g.st.free)⟩
/-- return x, x an own slot, handed back fresh -/
theorem s_retO {i : Nat} (h : PE X e (tVar i)) : PSp X c .fr (.Return (some e) pos) (dsRet (dO i)) := ps_of (ps_ret h) fun D σ H F ρ hs o g e q => by
  unfold dsRet dO at e
  split at e
  · cases e
  rename_i p h1 e1
  cases e
  split at e1
  · rename_i p' hp
    cases e1
    obtain ⟨v, h1, a, o, rfl, h2, h3, h4, h5, h6⟩ := g.slot i _ hp
    exact ⟨_, h1, q _ F H g.st g.hand ⟨a, o, rfl, h4, h2, h3, h5, h6⟩⟩
  · cases e1
theorem s_retN : PSp X c .fz (.Return none pos) (dsRet (dC .non)) := ps_of ps_retN fun D σ H F ρ hs o g e q => by
  cases e
  exact q .non F H g.st g.hand .non
theorem s_if {f : Expr} {a b : List Stmt} (h : PTp X c f t) (ha : PSsp X c rm a d1) (hb : PSsp X c rm b d2) : PSp X c rm (.If f a b pos) (dsIf t d1 d2) := ps_of (ps_if h ha hb) fun D σ H F ρ hs o g e q => by
  unfold dsIf at e
  split at e
  · cases e
  · rename_i h1 e1
    refine ⟨F, ρ, hs, true, h1, g, e1, fun F1 H1 s1 g1 => iteT ?_⟩
    exact tPS_mk g1 e (q.mono s1.mono)
  · rename_i h1 e1
    refine ⟨F, ρ, hs, false, h1, g, e1, fun F1 H1 s1 g1 => iteF ?_⟩
    exact tPS_mk g1 e (q.mono s1.mono)
/-- a fresh object goes to a slot of its own -/
theorem G.own {F H : Hp} {σ : L2.St} {ρ : Rho} {hs : HS} {He : Hp} {v : V} {p : PV} (g : G c F H σ ρ hs) (i : Nat) {Fe : Hp} {hse : HS} (ge : G c Fe He σ ρ hse) (r : RpM .fr c.K c.hd He F H v p) : G c F H (σ.set i (some v)) (ρ.set i (some (.own p))) hs := by
  obtain ⟨a, o, rfl, h0, h1, h2, h3, h4⟩ := r
  refine g.put i (s := .own p) ⟨a, o, rfl, h1, h2, ge.st.free h0, h3, h4⟩ fun q z j q' e1 e2 => ?_
  obtain ⟨w, w1, a', o', rfl, w2, _⟩ := ge.slot j _ e1
  rw [w1] at e2
  cases e2
  rw [h0] at w2
  cases w2
theorem s_set {i : Nat} {x : Str} (h : PEp X c .fz e d) (hN : X.N.Nodup) (hi : X.N[i]? = some x) (hx : Loc X.env.scope x) (hs : swapsWith e (some (.Name x pos')) pos.line X.env = pure false := by rfl) (hf : X.fn x = true ∨ X.env.scope.names.lookup x = some .local := by first | exact .inl rfl | exact .inr rfl | assumption) :
    PSp X c rm (.Assign [.Name x pos'] e pos) (dsSet .val i d) := ps_of (ps_set hN hi hx h hs hf) fun D σ H F ρ hs o g e q => by
  unfold dsSet at e
  split at e
  · cases e
  rename_i p h1 e1
  cases e
  exact ⟨F, ρ, hs, p, h1, g, e1, fun v F' H' s g' r => q _ F' H' s.mono (g'.val i r)⟩
theorem s_setO {i : Nat} {x : Str} (h : PEp X c .fr e d) (hN : X.N.Nodup) (hi : X.N[i]? = some x) (hx : Loc X.env.scope x) (hs : swapsWith e (some (.Name x pos')) pos.line X.env = pure false := by rfl) (hf : X.fn x = true ∨ X.env.scope.names.lookup x = some .local := by first | exact .inl rfl | exact .inr rfl | assumption) :
    PSp X c rm (.Assign [.Name x pos'] e pos) (dsSet .own i d) := ps_of (ps_set hN hi hx h hs hf) fun D σ H F ρ hs o g e q => by
  unfold dsSet at e
  split at e
  · cases e
  rename_i p h1 e1
  cases e
  exact ⟨F, ρ, hs, p, h1, g, e1, fun v F' H' s g' r => q _ F' H' s.mono (g'.own i g r)⟩
/-- name = [..] -/
theorem fr_val {F H : Hp} {σ : L2.St} {ρ : Rho} {hs : HS} {He : Hp} {v : V} {p : PV} (g : G c F H σ ρ hs) (r : RpM .fr c.K c.hd He F H v p) (s : ∀ b, He b = none → c.H0 b = none) {Fe : Hp} {hse : HS} (ge : G c Fe He σ ρ hse) : ∃ F', Sub F F' ∧ G c F' H σ ρ hs ∧ Rp c.K c.hd F' v p := by
  obtain ⟨a, o, rfl, h0, h1, h2, h3, h4⟩ := r
  refine ⟨upd F a o, Sub.new h2, ?_, ObRep.rp upd_same (h4.mono (Sub.new h2))⟩
  have st : Step c.hd c.F0 c.H0 (upd F a o) H := g.st.freeze (s a h0) h1 h2
  refine ⟨st, g.len, fun i t e => ?_, g.sep, fun h e => ?_⟩
  · obtain ⟨w, w1, w2⟩ := g.slot i t e
    refine ⟨w, w1, ?_⟩
    cases t with
    | val q => exact Rp.mono (Sub.new h2) w2
    | own q =>
      obtain ⟨b, u, rfl, q1, q2, q3, q4, q5⟩ := w2
      obtain ⟨w', w1', b', u', rfl, q1', _⟩ := ge.slot i _ e
      rw [w1] at w1'
      cases w1'
      exact ⟨b, u, rfl, q1, by rw [upd_ne (ne_of_none q1' h0)]; exact q2, q3, q4, q5.mono (Sub.new h2)⟩
  · obtain ⟨vs, q1, q2, q3⟩ := g.hand h e
    exact ⟨vs, q1, by rw [upd_ne (fun z => h3 (by rw [← z, e]))]; exact q2, q3.mono (Sub.new h2)⟩
variable {elt tg iter : Expr} {ifs : List Expr} {scope : Scope} {own : List (Str × Nat)} {di : DI} {dg : DG} {dt : DT} {de : DE} {ws : List Nat}
theorem s_setLc {i : Nat} {y : Str} {py spos : Pos} (hc : X.calm = true) (hN : X.N.Nodup) (hy : X.N[i]? = some y) (hyl : X.env.scope.names.lookup y = some .local)
    (hsw : swapsWith (.ListComp elt [⟨tg, iter, ifs, 0⟩] scope pos) (some (.Name y py)) spos.line X.env = pure true) (hi : PIt X c false tg iter di) (ok : BlkOk X.N X.env.scope scope own) (hw : ∀ j ∈ ws, j ∈ own.map (·.2))
    (hg : ∀ (s : Shared) (H : Hp) (C : Addr) (cl : List (Str × Addr)) (fp : List Addr), PG (X.blk s H scope (compEnvC scope cl C X.env) fp) tg (tG c ws dg)) (ht : ∀ (s : Shared) (H : Hp) (C : Addr) (cl : List (Str × Addr)) (fp : List Addr), PTs (X.blk s H scope (compEnvC scope cl C X.env) fp) ifs (tPT c dt))
    (he : ∀ (s : Shared) (H : Hp) (C : Addr) (cl : List (Str × Addr)) (fp : List Addr), PEp (X.blk s H scope (compEnvC scope cl C X.env) fp) c .fz elt de) (hs : ∀ x, foldedSetIterable iter X.env x = pure x := by intro _; rfl) :
    PSp X c rm (.Assign [.Name y py] (.ListComp elt [⟨tg, iter, ifs, 0⟩] scope pos) spos) (dsSet .val i (dLc (own.map (·.2)) di dg dt de)) := ps_of (ps_setLc hc hN hy hyl hsw hi ok hg ht he hs) fun D σ H F ρ hs o g e q => by
  unfold dsSet at e
  split at e
  · cases e
  rename_i p h1 e1
  cases e
  refine lc_imp hw σ H _ ⟨F, ρ, hs, p, h1, g, e1, fun v F' H' s g' r => ?_⟩
  obtain ⟨F2, s2, g2, r2⟩ := fr_val g' r (fun b => g.st.free) g
  exact q _ F2 H' (s.mono.trans s2) (g2.val i r2)
theorem s_setLcO {i : Nat} {y : Str} {py spos : Pos} (hc : X.calm = true) (hN : X.N.Nodup) (hy : X.N[i]? = some y) (hyl : X.env.scope.names.lookup y = some .local)
    (hsw : swapsWith (.ListComp elt [⟨tg, iter, ifs, 0⟩] scope pos) (some (.Name y py)) spos.line X.env = pure true) (hi : PIt X c false tg iter di) (ok : BlkOk X.N X.env.scope scope own) (hw : ∀ j ∈ ws, j ∈ own.map (·.2))
    (hg : ∀ (s : Shared) (H : Hp) (C : Addr) (cl : List (Str × Addr)) (fp : List Addr), PG (X.blk s H scope (compEnvC scope cl C X.env) fp) tg (tG c ws dg)) (ht : ∀ (s : Shared) (H : Hp) (C : Addr) (cl : List (Str × Addr)) (fp : List Addr), PTs (X.blk s H scope (compEnvC scope cl C X.env) fp) ifs (tPT c dt))
    (he : ∀ (s : Shared) (H : Hp) (C : Addr) (cl : List (Str × Addr)) (fp : List Addr), PEp (X.blk s H scope (compEnvC scope cl C X.env) fp) c .fz elt de) (hs : ∀ x, foldedSetIterable iter X.env x = pure x := by intro _; rfl) :
    PSp X c rm (.Assign [.Name y py] (.ListComp elt [⟨tg, iter, ifs, 0⟩] scope pos) spos) (dsSet .own i (dLc (own.map (·.2)) di dg dt de)) := ps_of (ps_setLc hc hN hy hyl hsw hi ok hg ht he hs) fun D σ H F ρ hs o g e q => by
  unfold dsSet at e
  split at e
  · cases e
  rename_i p h1 e1
  cases e
  exact lc_imp hw σ H _ ⟨F, ρ, hs, p, h1, g, e1, fun v F' H' s g' r => q _ F' H' s.mono (g'.own i g r)⟩

/-! ### for, while -/
theorem s_for (hp : PassesOwn (model X.prog X.w) X.A X.env X.xe) (hc : X.calm = true) (hi : PIt X c true tg iter di) (hg : PG X tg (tG c ws dg)) (hb : PSsp X c rm body d1)
    (hs : ∀ x, foldedSetIterable iter X.env x = pure x := by intro _; rfl) : PSp X c rm (.For tg iter body [] pos) (dsFor dg di d1) := ps_of (ps_for hp hc hi hg hb hs) fun D σ H F ρ hs o g e q => by
  unfold dsFor at e
  split at e
  · cases e
  rename_i ps h1 e1
  refine ⟨F, ρ, hs, ps, h1, g, e1, fun J F1 H1 s1 g1 it => ?_⟩
  obtain ⟨Gd, Y, w, st, y⟩ := it.ex
  have ne1 : ∀ b o, F1 b = some o → some b ≠ c.hd := fun b o eb => g1.ctx.fne eb
  refine for_it w (fun i σ' H' => ∃ F' ρ' hi, Sub F1 F' ∧ G c F' H' σ' ρ' hi ∧ forGo dg d1 (ps.drop i) ρ' hi = some o) ⟨F1, ρ, h1, Sub.refl F1, g1, by simpa using e⟩ (fun i σ' H' _ ⟨F', ρ', hi, s2, g2, _⟩ => st H' fun b o eb _ => g2.sub b o (s2 b o eb)) ?_ ?_
  · rintro i x σ' H' H'' hi ⟨F', ρ', hsi, s2, g2, e2⟩ hy
    obtain ⟨F'', p, s3, e3, r3⟩ := y i F' H' x H'' s2 g2.ctx (fun b o eb _ => g2.sub b o (s2 b o eb)) hi hy
    have hdrop : ps.drop i = p :: ps.drop (i + 1) := by
      obtain ⟨q1, q2⟩ := List.getElem?_eq_some_iff.mp e3
      rw [List.drop_eq_getElem_cons q1, q2]
    rw [hdrop] at e2
    unfold forGo at e2
    split at e2
    · cases e2
    rename_i ρ1 e4
    have g3 := g2.pure s3
    refine ⟨F'', ρ', hsi, p, ρ1, g3, r3, e4, fun σ4 g4 b4 => ?_⟩
    have sF : Sub F F'' := s1.mono.trans (s2.trans s3.mono)
    split at e2
    · rename_i ρ5 h5 e5
      refine tPS_mk g4 e5 fun σ5 F5 H5 s5 g5 => ?_
      exact ⟨F5, ρ5, h5, s2.trans (s3.mono.trans s5), g5, e2⟩
    · rename_i ρ5 h5 e5
      refine tPS_mk g4 e5 fun σ5 F5 H5 s5 g5 => ?_
      exact ⟨F5, ρ5, h5, s2.trans (s3.mono.trans s5), g5, e2⟩
    · rename_i ρ5 h5 e5
      cases e2
      exact tPS_mk g4 e5 fun σ5 F5 H5 s5 g5 => q σ5 F5 H5 (sF.trans s5) g5
    · rename_i p5 h5 e5
      cases e2
      exact tPS_mk g4 e5 q
    · cases e2
  · rintro σ' H' ⟨F', ρ', hsi, s2, g2, e2⟩
    rw [List.drop_eq_nil_of_le (Nat.le_refl _)] at e2
    cases e2
    exact q σ' F' H' (s1.mono.trans s2) g2
theorem s_while {f : Expr} (hp : PassesOwn (model X.prog X.w) X.A X.env X.xe) (hc : PTp X c f t) (hb : PSsp X c rm body d1) : PSp X c rm (.While f body [] pos) (dsWhile t d1) := ps_of (ps_while hp hc hb) fun D σ H F ρ hs o g e q => by
  unfold dsWhile at e
  refine ⟨fun m σ' H' => ∃ F' ρ' hs', Sub F F' ∧ G c F' H' σ' ρ' hs' ∧ whileGo t d1 m ρ' hs' = some o, ⟨1000000, F, ρ, hs, Sub.refl F, g, e⟩, ?_⟩
  rintro m σ' H' ⟨F', ρ', hs', s, g', e'⟩
  cases m with
  | zero => cases e'
  | succ n =>
    unfold whileGo at e'
    split at e'
    · cases e'
    · rename_i h1 e1
      cases e'
      exact ⟨F', ρ', hs', false, h1, g', e1, fun F2 H2 s2 g2 => iteF (q σ' F2 H2 (s.trans s2.mono) g2)⟩
    · rename_i h1 e1
      refine ⟨F', ρ', hs', true, h1, g', e1, fun F2 H2 s2 g2 => iteT ?_⟩
      refine ⟨fun σ3 H3 => ∃ F3 ρ3 h3, Sub F F3 ∧ G c F3 H3 σ3 ρ3 h3 ∧ whileGo t d1 n ρ3 h3 = some o, fun σ3 H3 hq => ⟨n, Nat.lt_succ_self n, hq⟩, ?_⟩
      have sF : Sub F F2 := s.trans s2.mono
      split at e'
      · rename_i ρ5 h5 e5
        exact tPS_mk g2 e5 fun σ5 F5 H5 s5 g5 => ⟨F5, ρ5, h5, sF.trans s5, g5, e'⟩
      · rename_i ρ5 h5 e5
        exact tPS_mk g2 e5 fun σ5 F5 H5 s5 g5 => ⟨F5, ρ5, h5, sF.trans s5, g5, e'⟩
      · rename_i ρ5 h5 e5
        cases e'
        exact tPS_mk g2 e5 fun σ5 F5 H5 s5 g5 => q σ5 F5 H5 (sF.trans s5) g5
      · rename_i p5 h5 e5
        cases e'
        exact tPS_mk g2 e5 q
      · cases e'
/-! ### freezing -/
theorem G.frz {F H : Hp} {σ : L2.St} {ρ : Rho} {hs : HS} (g : G c F H σ ρ hs) (i : Nat) : ∃ F', Sub F F' ∧ G c F' H σ (frzAt i ρ) hs := by
  unfold frzAt
  split
  · rename_i p hp
    obtain ⟨v, h1, a, o, rfl, h2, h3, h4, h5, h6⟩ := g.slot i _ hp
    refine ⟨L2.upd F a o, Sub.new h3, g.st.freeze h4 h2 h3, by rw [List.length_set]; exact g.len, fun j s e => ?_, fun j k q q' b ne e1 e2 e3 => ?_, fun h e => ?_⟩
    · by_cases hj : i = j
      · subst hj
        have hl : i < ρ.length := (List.getElem?_eq_some_iff.mp hp).1
        rw [List.getElem?_set_self hl] at e
        cases e
        exact ⟨_, h1, ObRep.rp upd_same (h6.mono (Sub.new h3))⟩
      · rw [List.getElem?_set_ne hj] at e
        obtain ⟨w, w1, w2⟩ := g.slot j s e
        refine ⟨w, w1, ?_⟩
        cases s with
        | val q => exact Rp.mono (Sub.new h3) w2
        | own q =>
          obtain ⟨b, u, rfl, q1, q2, q3, q4, q5⟩ := w2
          refine ⟨b, u, rfl, q1, ?_, q3, q4, q5.mono (Sub.new h3)⟩
          rw [upd_ne (fun z => g.sep i j p q a hj hp e h1 (by rw [w1, z]))]
          exact q2
    · have hj : i ≠ j := fun z => by
        subst z
        rw [List.getElem?_set_self (List.getElem?_eq_some_iff.mp hp).1] at e1
        cases e1
      have hk : i ≠ k := fun z => by
        subst z
        rw [List.getElem?_set_self (List.getElem?_eq_some_iff.mp hp).1] at e2
        cases e2
      rw [List.getElem?_set_ne hj] at e1
      rw [List.getElem?_set_ne hk] at e2
      exact g.sep j k q q' b ne e1 e2 e3
    · obtain ⟨vs, q1, q2, q3⟩ := g.hand h e
      exact ⟨vs, q1, by rw [upd_ne (fun z => h5 (by rw [← z, e]))]; exact q2, q3.mono (Sub.new h3)⟩
  · exact ⟨F, Sub.refl F, g⟩
theorem ss_frz {d : DS} (i : Nat) (h : PSsp X c rm rest d) : PSsp X c rm rest (dsFrz i d) := pss_of h fun D σ H F ρ hs o g e q => by
  obtain ⟨F', s, g'⟩ := g.frz i
  exact tPS_mk g' e (q.mono s)

/-! ### a slot's own object is changed -/
theorem G.chg {F H : Hp} {σ : L2.St} {ρ : Rho} {hs : HS} {i : Nat} {a : Addr} {o o' : HO} {p p' : PV} (g : G c F H σ ρ hs) (hp : ρ[i]? = some (some (.own p))) (hv : σ[i]? = some (some (.ref a))) (ho : H a = some o) (hr : ObRep c.K c.hd F o' p') : G c F (L2.upd H a o') σ (ρ.set i (some (.own p'))) hs := by
  obtain ⟨v, h1, a', o2, rfl, h2, h3, h4, h5, h6⟩ := g.slot i _ hp
  rw [hv] at h1
  cases h1
  have hl : i < ρ.length := (List.getElem?_eq_some_iff.mp hp).1
  refine ⟨⟨fun b u e ne => ?_, fun b e n => ?_, g.st.mono, g.st.sub.uR h3, g.st.old⟩, by rw [List.length_set]; exact g.len, fun j s e => ?_, fun j k q q' b ne e1 e2 e3 => ?_, fun h e => ?_⟩
  · rw [upd_ne (ne_of_none e h4)]; exact g.st.ext b u e ne
  · rw [upd_ne (fun z => n (by rw [z]; exact h4))]; exact g.st.hdk b e n
  · by_cases hj : i = j
    · subst hj
      rw [List.getElem?_set_self hl] at e
      cases e
      exact ⟨_, hv, a, o', rfl, upd_same, h3, h4, h5, hr⟩
    · rw [List.getElem?_set_ne hj] at e
      obtain ⟨w, w1, w2⟩ := g.slot j s e
      refine ⟨w, w1, ?_⟩
      cases s with
      | val q => exact w2
      | own q =>
        obtain ⟨b, u, rfl, q1, q2⟩ := w2
        refine ⟨b, u, rfl, ?_, q2⟩
        rw [upd_ne (fun z => g.sep i j p q a hj hp e hv (by rw [w1, z]))]
        exact q1
  · have aux : ∀ (j : Nat) (q : PV), (ρ.set i (some (SV.own p')))[j]? = some (some (SV.own q)) → ∃ q : PV, ρ[j]? = some (some (SV.own q)) := fun j q e => by
      by_cases hj : i = j
      · subst hj
        exact ⟨p, hp⟩
      · rw [List.getElem?_set_ne hj] at e
        exact ⟨q, e⟩
    obtain ⟨q1, z1⟩ := aux j q e1
    obtain ⟨q2, z2⟩ := aux k q' e2
    exact g.sep j k q1 q2 b ne z1 z2 e3
  · obtain ⟨vs, q1, q2⟩ := g.hand h e
    exact ⟨vs, by rw [upd_ne (fun z => h5 (by rw [← z, e]))]; exact q1, q2⟩
end

/-- o.m(..) that changes the slot's own object; op: the object's data and the arguments to the new data -/
def dsMut (i : Nat) (op : PV → List PV → Option PV) (a : DA) : DS := fun ρ hs => match a ρ hs with
  | none => none
  | some (ps, h1) => match ρ[i]? with
    | some (some (.own p)) => (match op p ps with
      | none => none
      | some p' => some (.nx (ρ.set i (some (.own p'))) h1))
    | _ => none
def MuOk (K : PySem.W.Frag) (hd : Option Addr) (m : Md) (op : PV → List PV → Option PV) (r : V → List V → Hp → VK → Prop) : Prop :=
  ∀ (F H : Hp) (a : Addr) (o : HO) (p p' : PV) (vs : List V) (ps : List PV) (Q : VK), Ctx hd F H → H a = some o → F a = none → ObRep K hd F o p → RpLM m K hd H F H vs ps → op p ps = some p' →
    (∀ v o', ObRep K hd F o' p' → Q v (upd H a o')) → r (.ref a) vs H Q
section
variable {X : Cx} {c : Fc} {rm m : Md} {e ob : Expr} {es : List Expr} {d : DE} {ds : DA} {pos apos cpos : Pos} {name : Str} {id : String} {r : V → List V → Hp → VK → Prop} {op : PV → List PV → Option PV}
theorem RpLM.reHe {K : PySem.W.Frag} {hd : Option Addr} {He F H : Hp} (hm : m = .fz ∨ m = .bw) : ∀ {vs : List V} {ps : List PV}, RpLM m K hd He F H vs ps → RpLM m K hd H F H vs ps := by
  intro vs ps h
  rcases hm with rfl | rfl
  · induction h with
    | nil => exact .nil
    | cons a b ih => exact .cons a ih
  · exact RpLM.bw h
theorem s_mut {i : Nat} (hm' : m = .fz ∨ m = .bw) (pa : PlainAttrs "list") (slot : Slot "list" name id) (hty : typeOf (.builtin id) = pure (.type "method_descriptor")) (hm : MtR X id r) (ok : MuOk c.K c.hd m op r) (hop : ∀ p ps p', op p ps = some p' → ∃ xs, p = .lst xs) (ho : PE X ob (tVar i)) (ha : PAp X c m (e :: es) ds)
    (hsw : swapsWith (.Call (.Attribute ob name apos) (e :: es) [] cpos) none pos.line X.env = pure false := by rfl)
    (hbase : attributeBase ob name X.env (eval ob X.env) = eval ob X.env := by rfl)
    (hfew : ((backTo cpos (starEach (e :: es) X.env)).all (fun x => !x.1) && (backToKw cpos (keywordEach [] X.env)).all (fun x => x.1.isSome)
      && decide ((e :: es).length + ([] : List Keyword).length + (if ([] : List Keyword).isEmpty then 0 else 1) < 30)) = true := by rfl)
    (hline : (apos.endLine == cpos.line) = true := by rfl) (hst : starEach (e :: es) X.env = (false, eval e X.env) :: starEach es X.env := by rfl) (hplain : (backTo cpos (starEach es X.env)).any (·.1) = false := by rfl) :
    PSp X c rm (.Expr (.Call (.Attribute ob name apos) (e :: es) [] cpos) pos) (dsMut i op ds) := ps_of (ps_expr (pe_bm pa slot hty hm ho ha hbase hfew hline hst hplain) hsw) fun D σ H F ρ hs o g e q => by
  unfold dsMut at e
  split at e
  · cases e
  rename_i ps h1 e1
  split at e
  case h_2 => cases e
  rename_i p hp
  split at e
  · cases e
  rename_i p' e2
  cases e
  obtain ⟨xs, rfl⟩ := hop _ _ _ e2
  obtain ⟨v, w1, a, o, rfl, w2, w3, w4, w5, w6⟩ := g.slot i _ hp
  obtain ⟨vs', rfl, w7⟩ := w6.lst_inv
  refine ⟨_, w1, .inl ⟨rfl, vs', SqL.of w2⟩, F, ρ, hs, ps, h1, g, e1, fun vs F1 H1 s1 g1 r1 => ?_⟩
  have H1a : H1 a = some (.lst vs') := s1.ext a _ w2 w5
  have F1a : F1 a = none := (s1.old a (by rw [w2]; exact fun z => nomatch z)).trans w3
  refine ok F1 H1 a (.lst vs') (.lst xs) p' vs ps _ g1.ctx H1a F1a (w7.mono s1.mono) (RpLM.reHe hm' r1) e2 fun v o' ro => ?_
  exact q σ F1 _ s1.mono (g1.chg hp w1 H1a ro)
end
def apP : PV → List PV → Option PV
  | .lst xs, [y] => if xs.length < sizeLine then some (.lst (xs ++ [y])) else none
  | _, _ => none
theorem apP_ok {K : PySem.W.Frag} {hd : Option Addr} : MuOk K hd .fz apP rAppend := fun F H a o p p' vs ps Q cx ho hf r rl e k => by
  cases p with
  | lst xs =>
    match ps, e, rl with
    | [y], e, rl =>
      have e : (if xs.length < sizeLine then some (PV.lst (xs ++ [y])) else none) = some p' := e
      split at e
      · rename_i hz
        cases e
        obtain ⟨ws, rfl, hr⟩ := r.lst_inv
        obtain ⟨v, rfl, rv⟩ := rl.inv1
        exact ⟨a, ws, v, rfl, rfl, ho, by rw [hr.length]; exact hz, k _ _ (show ObRep K hd F (.lst _) (.lst _) from hr.append (.cons rv .nil))⟩
      · cases e
  | _ => cases e
theorem apP_l : ∀ p ps p', apP p ps = some p' → ∃ xs, p = .lst xs := fun p ps p' e => by
  cases p with
  | lst xs => exact ⟨xs, rfl⟩
  | _ => cases e
def exP : PV → List PV → Option PV
  | .lst xs, [.lst ys] => if xs.length + ys.length ≤ sizeLine then some (.lst (xs ++ ys)) else none
  | _, _ => none
theorem exP_ok {K : PySem.W.Frag} {hd : Option Addr} : MuOk K hd .bw exP rExtend := fun F H a o p p' vs ps Q cx ho hf r rl e k => by
  cases p with
  | lst xs =>
    match ps, e, rl with
    | [.lst ys], e, rl =>
      have e : (if xs.length + ys.length ≤ sizeLine then some (PV.lst (xs ++ ys)) else none) = some p' := e
      split at e
      · rename_i hz
        cases e
        obtain ⟨ws, rfl, hr⟩ := r.lst_inv
        obtain ⟨v, rfl, rv⟩ := rl.inv1
        obtain ⟨b, zs, rfl, hb, hl⟩ := RpB.lst cx.sub rv.bw
        exact ⟨a, b, ws, zs, rfl, rfl, ho, hb, by rw [hr.length, hl.length]; exact hz, k _ _ (show ObRep K hd F (.lst _) (.lst _) from hr.append hl)⟩
      · cases e
  | _ => cases e
theorem exP_l : ∀ p ps p', exP p ps = some p' → ∃ xs, p = .lst xs := fun p ps p' e => by
  cases p with
  | lst xs => exact ⟨xs, rfl⟩
  | _ => cases e
def inP : PV → List PV → Option PV
  | .lst xs, [.int i, y] => if xs.length < sizeLine ∧ 0 ≤ i ∧ i < 2 ^ 63 then some (.lst (xs.take i.toNat ++ [y] ++ xs.drop i.toNat)) else none
  | _, _ => none
end PL

set_option Elab.async false
set_option linter.all false
set_option maxRecDepth 100000
set_option maxHeartbeats 1000000
/-! PL, part f: the operators and built-ins. -/
namespace PL
open PySem PySem.Spec PyProof.Rows L2

/-! ### data as the library's data -/
mutual
def toD : PV → PyData
  | .non => .none
  | .bl b => .bool b
  | .int i => .int i
  | .str x => .str ⟨x.toArray⟩
  | .tup xs => .tuple (toDs xs)
  | .lst xs => .list (toDs xs)
  | .dct _ => .none
  | .dcT _ => .none
  | .hand => .none
  | .scr _ => .none
def toDs : List PV → List PyData
  | [] => []
  | x :: xs => toD x :: toDs xs
end
mutual
/-- plain data (no dict), at most so deep, signs below 128 -/
def okN : Nat → PV → Bool
  | _, .non => true
  | _, .bl _ => true
  | _, .int _ => true
  | _, .str x => x.all (fun n => decide (n < 128))
  | n, .tup xs => (match n with | 0 => false | k + 1 => okNs k xs)
  | n, .lst xs => (match n with | 0 => false | k + 1 => okNs k xs)
  | _, .dct _ => false
  | _, .dcT _ => false
  | _, .hand => false
  | _, .scr _ => false
def okNs : Nat → List PV → Bool
  | _, [] => true
  | n, x :: xs => okN n x && okNs n xs
end
mutual
/-- == -/
def veq : PV → PV → Bool
  | .non, .non => true
  | .bl a, .bl b => a == b
  | .bl a, .int j => (if a then 1 else 0) == j
  | .int i, .bl b => i == (if b then 1 else 0)
  | .int i, .int j => i == j
  | .str x, .str y => x == y
  | .lst xs, .lst ys => veqs xs ys
  | .tup xs, .tup ys => veqs xs ys
  | _, _ => false
def veqs : List PV → List PV → Bool
  | [], [] => true
  | x :: xs, y :: ys => veq x y && veqs xs ys
  | _, _ => false
end
section
variable {K : PySem.W.Frag} {hd : Option Addr} {F : Hp}
mutual
theorem Rp.dp {n : Nat} : ∀ {v : V} {p : PV}, Rp K hd F v p → okN n p = true → Dp K F v (toD p)
  | _, _, .non, _ => .non
  | _, _, .bl b, _ => .bl b
  | _, _, .int i, _ => .int i
  | _, _, .str x, _ => by
    have e : (⟨x.cps.toList.toArray⟩ : Str) = x := rfl
    show Dp K F (.str x) (.str ⟨x.cps.toList.toArray⟩)
    rw [e]
    exact .str x
  | _, _, .tup h l, o => by
    cases n with
    | zero => simp [okN] at o
    | succ k => exact .tup (SqT.of h) (RpL.dp (n := k) l (by simpa [okN] using o))
  | _, _, .lst h l, o => by
    cases n with
    | zero => simp [okN] at o
    | succ k => exact .lst (SqL.of h) (RpL.dp (n := k) l (by simpa [okN] using o))
  | _, _, .dct _ _, o => by simp [okN] at o
  | _, _, .dctT _ _, o => by simp [okN] at o
  | _, _, .hand _, o => by simp [okN] at o
  | _, _, .scr _, o => by simp [okN] at o
theorem RpL.dp {n : Nat} : ∀ {vs : List V} {ps : List PV}, RpL K hd F vs ps → okNs n ps = true → DpAll K F vs (toDs ps)
  | _, _, .nil, _ => .nil
  | _, _, .cons a b, o => by
    simp only [okNs, Bool.and_eq_true] at o
    exact .cons (Rp.dp a o.1) (RpL.dp b o.2)
end
end
mutual
theorem Dp.mono {K : PySem.W.Frag} {F H : Hp} (e : Sub F H) : ∀ {v : V} {d : PyData}, Dp K F v d → Dp K H v d
  | _, _, .non => .non
  | _, _, .bl b => .bl b
  | _, _, .int i => .int i
  | _, _, .str x => .str x
  | _, _, .lst h l => .lst (e.sqL h) (DpAll.mono e l)
  | _, _, .tup h l => .tup (e.sqT h) (DpAll.mono e l)
theorem DpAll.mono {K : PySem.W.Frag} {F H : Hp} (e : Sub F H) : ∀ {v : List V} {d : List PyData}, DpAll K F v d → DpAll K H v d
  | _, _, .nil => .nil
  | _, _, .cons a b => .cons (Dp.mono e a) (DpAll.mono e b)
end
mutual
theorem ok_shape : ∀ (p : PV) (n : Nat), okN n p = true → (toD p).canLay0 = true ∧ (toD p).depth ≤ n
  | .non, n, _ => ⟨rfl, Nat.zero_le _⟩
  | .bl _, n, _ => ⟨rfl, Nat.zero_le _⟩
  | .int _, n, _ => ⟨rfl, Nat.zero_le _⟩
  | .str x, n, o => by
    refine ⟨?_, Nat.zero_le _⟩
    simp only [okN, List.all_eq_true, decide_eq_true_eq] at o
    simp only [toD, PyData.canLay0, PyData.strOk]
    simp only [List.all_toArray, List.all_eq_true, decide_eq_true_eq]
    exact fun c hc => Nat.lt_of_lt_of_le (o c hc) (by decide)
  | .tup xs, n, o => by
    cases n with
    | zero => simp [okN] at o
    | succ k =>
      have h := oks_shape xs k (by simpa [okN] using o)
      simp only [toD, PyData.canLay0, PyData.depth]
      exact ⟨h.1, by omega⟩
  | .lst xs, n, o => by
    cases n with
    | zero => simp [okN] at o
    | succ k =>
      have h := oks_shape xs k (by simpa [okN] using o)
      simp only [toD, PyData.canLay0, PyData.depth]
      exact ⟨h.1, by omega⟩
  | .dct _, n, o => by simp [okN] at o
  | .dcT _, n, o => by simp [okN] at o
  | .hand, n, o => by simp [okN] at o
  | .scr _, n, o => by simp [okN] at o
theorem oks_shape : ∀ (ps : List PV) (n : Nat), okNs n ps = true → PyData.canLayAll0 (toDs ps) = true ∧ PyData.depthAll (toDs ps) ≤ n
  | [], n, _ => ⟨rfl, Nat.zero_le _⟩
  | p :: ps, n, o => by
    simp only [okNs, Bool.and_eq_true] at o
    have h1 := ok_shape p n o.1
    have h2 := oks_shape ps n o.2
    simp only [toDs, PyData.canLayAll0, PyData.depthAll, Bool.and_eq_true]
    exact ⟨⟨h1.1, h2.1⟩, by omega⟩
end
theorem ok_shaped {p : PV} (h : okN 60 p = true) : SeqAt.shaped (toD p) = true := by
  have := ok_shape p 60 h
  show ((toD p).canLay0 && decide ((toD p).depth ≤ 64)) = true
  rw [Bool.and_eq_true]
  exact ⟨this.1, decide_eq_true (by omega)⟩
theorem str_beq (x y : List Nat) : ((⟨x.toArray⟩ : Str) == ⟨y.toArray⟩) = (x == y) := by
  by_cases h : x = y
  · subst h; simp
  · rw [beq_eq_false_iff_ne.mpr h]
    exact beq_eq_false_iff_ne.mpr fun z => h (by
      have := congrArg (fun s : Str => s.cps.toList) z
      simpa using this)
mutual
theorem veq_eqv : ∀ (p q : PV) (n m : Nat), okN n p = true → okN m q = true → PyData.eqv (toD p) (toD q) = veq p q
  | .lst xs, .lst ys, n, m, o1, o2 => by
    cases n with
    | zero => simp [okN] at o1
    | succ k => cases m with
      | zero => simp [okN] at o2
      | succ j =>
        simp only [toD, PyData.eqv, veq]
        exact veqs_eqv xs ys k j (by simpa [okN] using o1) (by simpa [okN] using o2)
  | .tup xs, .tup ys, n, m, o1, o2 => by
    cases n with
    | zero => simp [okN] at o1
    | succ k => cases m with
      | zero => simp [okN] at o2
      | succ j =>
        simp only [toD, PyData.eqv, veq]
        exact veqs_eqv xs ys k j (by simpa [okN] using o1) (by simpa [okN] using o2)
  | .str x, .str y, n, m, o1, o2 => by simp only [toD, PyData.eqv, veq]; exact str_beq x y
  | p, q, n, m, o1, o2 => by
    cases p <;> cases q <;> first
      | (simp [okN] at o1; done)
      | (simp [okN] at o2; done)
      | (simp only [toD, PyData.eqv, veq]; done)
      | (simp only [toD, PyData.eqv, veq]; exact str_beq _ _)
      | (rename_i a b; cases n <;> cases m <;> simp only [okN] at o1 o2 <;> first | cases o1 | cases o2 | (simp only [toD, PyData.eqv, veq]; exact veqs_eqv _ _ _ _ o1 o2))
theorem veqs_eqv : ∀ (ps qs : List PV) (n m : Nat), okNs n ps = true → okNs m qs = true → PyData.eqvAll (toDs ps) (toDs qs) = veqs ps qs
  | [], [], _, _, _, _ => rfl
  | [], _ :: _, _, _, _, _ => rfl
  | _ :: _, [], _, _, _, _ => rfl
  | p :: ps, q :: qs, n, m, o1, o2 => by
    simp only [okNs, Bool.and_eq_true] at o1 o2
    simp only [toDs, PyData.eqvAll, veqs]
    rw [veq_eqv p q n m o1.1 o2.1, veqs_eqv ps qs n m o1.2 o2.2]
end
end PL

set_option Elab.async false
set_option linter.all false
set_option maxRecDepth 100000
set_option maxHeartbeats 1000000
/-! PL, part g: the operators. -/
namespace PL
open PySem PySem.Spec PyProof.Rows L2
section
variable {X : Cx} {K : PySem.W.Frag} {hd : Option Addr} {F H : Hp} {v : V} {p : PV} {md : Md}
theorem RpB.dp (x : Ctx hd F H) (r : RpB K hd F H v p) (o : okN 60 p = true) : Dp K H v (toD p) := by
  rcases r with r | ⟨a, u, rfl, h1, h2, h3, h4⟩
  · exact PL.Dp.mono x.sub (r.dp o)
  · cases u <;> cases p <;> first | exact False.elim h4 | (simp [okN] at o; done) | skip
    rename_i vs ps
    exact .lst (SqL.of h1) (PL.DpAll.mono x.sub (RpL.dp (n := 59) (show RpL K hd F vs ps from h4) (by simpa [okN] using o)))
/-- a result that is no object -/
theorem fin {Q : VK} {z : PV} {w : V} (x : Ctx hd F H) (k : ∀ v' F' H', Step none F H F' H' → RpM .fz K hd H F' H' v' z → Q v' H') (r : Rp K hd F w z) : Q w H := k w F H (Step.refl x.sub) r
theorem rstr (z : Str) (l : List Nat) (h : z.cps.toList = l) : Rp K hd F (.str z) (.str l) := h ▸ .str z

/-! ### arithmetic -/
def addP : PV → PV → Option PV
  | .int i, .int j => some (.int (i + j))
  | .str x, .str y => if x.length + y.length ≤ sizeLine then some (.str (x ++ y)) else none
  | .lst xs, .lst ys => if xs.length + ys.length ≤ sizeLine then some (.lst (xs ++ ys)) else none
  | .tup xs, .tup ys => if xs.length + ys.length ≤ sizeLine then some (.tup (xs ++ ys)) else none
  | _, _ => none
def addL : PV → PV → Option PV
  | .lst xs, .lst ys => if xs.length + ys.length ≤ sizeLine then some (.lst (xs ++ ys)) else none
  | _, _ => none
def rAddS' : R2 := fun x y H Q => ∃ i j, x = .str i ∧ y = .str j ∧ i.length + j.length ≤ sizeLine ∧ Q (.str (i ++ j)) H
abbrev rAddA (K : PySem.W.Frag) : R2 := fun x y H Q => ((rI0 fun i j => .int (i + j)) x y H Q ∨ rAddS' x y H Q) ∨ (rCat x y H Q ∨ rCatA K x y H Q)
theorem op_addA : OpR X (binaryOp .Add) (rAddA X.K) := (op_add.or op_add_str).or (op_cat.or op_catA)
theorem add_ok : OpOk K hd .fz addP (rAddA K) := fun F H v w p q z Q cx rp rq e k => by
  cases p <;> cases q <;> try (cases e; done)
  · rename_i i j
    cases e
    have h1 := rp.int; have h2 := rq.int
    subst h1 h2
    exact .inl (.inl ⟨i, j, rfl, rfl, fin cx k (.int _)⟩)
  · rename_i x y
    have e : (if x.length + y.length ≤ sizeLine then some (PV.str (x ++ y)) else none) = some z := e
    split at e
    · rename_i hz
      cases e
      obtain ⟨a, rfl, rfl⟩ := rp.str
      obtain ⟨b, rfl, rfl⟩ := rq.str
      refine .inl (.inr ⟨a, b, rfl, rfl, by simpa [Str.length] using hz, fin cx k (rstr _ _ ?_)⟩)
      show (a.cps ++ b.cps).toList = _
      simp
    · cases e
  · rename_i xs ys
    have e : (if xs.length + ys.length ≤ sizeLine then some (PV.tup (xs ++ ys)) else none) = some z := e
    split at e
    · rename_i hz
      cases e
      obtain ⟨a, vs, rfl, ha, la⟩ := rp.tup
      obtain ⟨b, ws, rfl, hb, lb⟩ := rq.tup
      refine .inr (.inr ⟨a, b, vs, ws, rfl, rfl, SqT.of (cx.sub _ _ ha), SqT.of (cx.sub _ _ hb), by rw [la.length, lb.length]; exact hz, fun h => ?_, fun h1 h2 => ?_, fun h1 h2 pp hp => ?_⟩)
      · subst h
        cases la
        exact fin cx k (.tup hb lb)
      · subst h2
        cases lb
        rw [List.append_nil] at k
        exact fin cx k (.tup ha la)
      · exact k _ _ _ (Step.newF cx.sub hp) (.tup upd_same ((la.append lb).mono (Sub.new (cx.sub.none hp))))
    · cases e
  · rename_i xs ys
    have e : (if xs.length + ys.length ≤ sizeLine then some (PV.lst (xs ++ ys)) else none) = some z := e
    split at e
    · rename_i hz
      cases e
      obtain ⟨a, vs, rfl, ha, la⟩ := RpB.lst cx.sub rp
      obtain ⟨b, ws, rfl, hb, lb⟩ := RpB.lst cx.sub rq
      refine .inr (.inl ⟨a, b, vs, ws, rfl, rfl, ha, hb, by rw [la.length, lb.length]; exact hz, fun pp hp => ?_⟩)
      exact k _ _ _ (Step.newF cx.sub hp) (.lst upd_same ((la.append lb).mono (Sub.new (cx.sub.none hp))))
    · cases e
theorem addL_ok : OpOk K hd .fr addL rCat := fun F H v w p q z Q cx rp rq e k => by
  cases p <;> cases q <;> try (cases e; done)
  rename_i xs ys
  have e : (if xs.length + ys.length ≤ sizeLine then some (PV.lst (xs ++ ys)) else none) = some z := e
  split at e
  · rename_i hz
    cases e
    obtain ⟨a, vs, rfl, ha, la⟩ := RpB.lst cx.sub rp
    obtain ⟨b, ws, rfl, hb, lb⟩ := RpB.lst cx.sub rq
    refine ⟨a, b, vs, ws, rfl, rfl, ha, hb, by rw [la.length, lb.length]; exact hz, fun pp hp => ?_⟩
    exact k _ _ _ (Step.new cx.sub hp) (RpM.new (o := .lst _) (p := .lst _) cx hp (show RpL K hd F _ _ from la.append lb))
  · cases e
def subP : PV → PV → Option PV
  | .int i, .int j => some (.int (i - j))
  | _, _ => none
theorem sub_ok : OpOk K hd .fz subP (rI0 fun i j => .int (i - j)) := fun F H v w p q z Q cx rp rq e k => by
  cases p <;> cases q <;> try (cases e; done)
  rename_i i j
  cases e
  have h1 := rp.int; have h2 := rq.int
  subst h1 h2
  exact ⟨i, j, rfl, rfl, fin cx k (.int _)⟩
/-- an int that is not too great -/
def smallI (i : Int) : Bool := decide (-(2 ^ 64) < i ∧ i < 2 ^ 64)
def mulP : PV → PV → Option PV
  | .int i, .int j => if smallI i || smallI j || decide (i.natAbs.log2 + j.natAbs.log2 < 1000000) then some (.int (i * j)) else none
  | .lst xs, .int k => if -(2 ^ 63) ≤ k ∧ k < 2 ^ 63 ∧ xs.length * k.toNat ≤ sizeLine then some (.lst (List.replicate k.toNat xs).flatten) else none
  | .tup xs, .int k => if xs ≠ [] ∧ 2 ≤ k ∧ k ≤ 1000 ∧ xs.length ≤ 1000 then some (.tup (List.replicate k.toNat xs).flatten) else none
  | _, _ => none
abbrev rMulA (K : PySem.W.Frag) : R2 := fun x y H Q => ((rI CMul fun i j => .int (i * j)) x y H Q ∨ (rI CMulW fun i j => .int (i * j)) x y H Q) ∨ (rRep x y H Q ∨ rRepT K x y H Q)
theorem op_mulA : OpR X (binaryOp .Mult) (rMulA X.K) := (op_mul.or op_mulW).or (op_rep.or op_repT)
theorem RpL.rep {vs : List V} {ps : List PV} (l : RpL K hd F vs ps) : ∀ n, RpL K hd F (List.replicate n vs).flatten (List.replicate n ps).flatten
  | 0 => .nil
  | n + 1 => by
    rw [List.replicate_succ, List.replicate_succ, List.flatten_cons, List.flatten_cons]
    exact l.append (RpL.rep l n)
theorem mul_ok : OpOk K hd .fz mulP (rMulA K) := fun F H v w p q z Q cx rp rq e k => by
  cases p <;> cases q <;> try (cases e; done)
  · rename_i i j
    have e : (if smallI i || smallI j || decide (i.natAbs.log2 + j.natAbs.log2 < 1000000) then some (PV.int (i * j)) else none) = some z := e
    split at e
    · rename_i hz
      cases e
      have h1 := rp.int; have h2 := rq.int
      subst h1 h2
      simp only [Bool.or_eq_true, smallI, decide_eq_true_eq] at hz
      rcases hz with (hz | hz) | hz
      · exact .inl (.inl ⟨i, j, rfl, rfl, .inl hz, fin cx k (.int _)⟩)
      · exact .inl (.inl ⟨i, j, rfl, rfl, .inr hz, fin cx k (.int _)⟩)
      · exact .inl (.inr ⟨i, j, rfl, rfl, hz, fin cx k (.int _)⟩)
    · cases e
  · rename_i xs j
    have e : (if xs ≠ [] ∧ 2 ≤ j ∧ j ≤ 1000 ∧ xs.length ≤ 1000 then some (PV.tup (List.replicate j.toNat xs).flatten) else none) = some z := e
    split at e
    · rename_i hz
      cases e
      obtain ⟨a, vs, rfl, ha, la⟩ := rp.tup
      have h2 := rq.int
      subst h2
      refine .inr (.inr ⟨a, j, vs, rfl, rfl, SqT.of (cx.sub _ _ ha), fun h => hz.1 (by subst h; cases la; rfl), hz.2.1, hz.2.2.1, by rw [la.length]; exact hz.2.2.2, fun pp hp => ?_⟩)
      exact k _ _ _ (Step.newF cx.sub hp) (.tup upd_same ((la.rep _).mono (Sub.new (cx.sub.none hp))))
    · cases e
  · rename_i xs j
    have e : (if -(2 ^ 63) ≤ j ∧ j < 2 ^ 63 ∧ xs.length * j.toNat ≤ sizeLine then some (PV.lst (List.replicate j.toNat xs).flatten) else none) = some z := e
    split at e
    · rename_i hz
      cases e
      obtain ⟨a, vs, rfl, ha, la⟩ := RpB.lst cx.sub rp
      have h2 := rq.int
      subst h2
      refine .inr (.inl ⟨a, j, vs, rfl, rfl, ha, hz.1, hz.2.1, by rw [la.length]; exact hz.2.2, fun pp hp => ?_⟩)
      exact k _ _ _ (Step.newF cx.sub hp) (.lst upd_same ((la.rep _).mono (Sub.new (cx.sub.none hp))))
    · cases e
def mulL : PV → PV → Option PV
  | .lst xs, .int k => if -(2 ^ 63) ≤ k ∧ k < 2 ^ 63 ∧ xs.length * k.toNat ≤ sizeLine then some (.lst (List.replicate k.toNat xs).flatten) else none
  | _, _ => none
theorem mulL_ok : OpOk K hd .fr mulL rRep := fun F H v w p q z Q cx rp rq e k => by
  cases p <;> cases q <;> try (cases e; done)
  rename_i xs j
  have e : (if -(2 ^ 63) ≤ j ∧ j < 2 ^ 63 ∧ xs.length * j.toNat ≤ sizeLine then some (PV.lst (List.replicate j.toNat xs).flatten) else none) = some z := e
  split at e
  · rename_i hz
    cases e
    obtain ⟨a, vs, rfl, ha, la⟩ := RpB.lst cx.sub rp
    have h2 := rq.int
    subst h2
    refine ⟨a, j, vs, rfl, rfl, ha, hz.1, hz.2.1, by rw [la.length]; exact hz.2.2, fun pp hp => ?_⟩
    exact k _ _ _ (Step.new cx.sub hp) (RpM.new (o := .lst _) (p := .lst _) cx hp (show RpL K hd F _ _ from la.rep _))
  · cases e
def fdivP : PV → PV → Option PV
  | .int i, .int j => if 0 < j ∧ (j < 2 ^ 64 ∨ j.natAbs.log2 < 9000) then some (.int (i / j)) else none
  | _, _ => none
theorem fdiv_ok : OpOk K hd .fz fdivP (rI CDivW fun i j => .int (i / j)) := fun F H v w p q z Q cx rp rq e k => by
  cases p <;> cases q <;> try (cases e; done)
  rename_i i j
  have e : (if 0 < j ∧ (j < 2 ^ 64 ∨ j.natAbs.log2 < 9000) then some (PV.int (i / j)) else none) = some z := e
  split at e
  · rename_i hz
    cases e
    have h1 := rp.int; have h2 := rq.int
    subst h1 h2
    refine ⟨i, j, rfl, rfl, ?_, fin cx k (.int _)⟩
    rcases hz with ⟨h0, h | h⟩
    · exact wide_div (b := 64) h0 (by omega) (by decide) (by decide)
    · exact ⟨h0, h⟩
  · cases e
def modP : PV → PV → Option PV
  | .int i, .int j => if 0 < j then some (.int (i % j)) else none
  | _, _ => none
theorem mod_ok : OpOk K hd .fz modP (rI (fun _ j => 0 < j) fun i j => .int (i % j)) := fun F H v w p q z Q cx rp rq e k => by
  cases p <;> cases q <;> try (cases e; done)
  rename_i i j
  have e : (if 0 < j then some (PV.int (i % j)) else none) = some z := e
  split at e
  · rename_i hz
    cases e
    have h1 := rp.int; have h2 := rq.int
    subst h1 h2
    exact ⟨i, j, rfl, rfl, hz, fin cx k (.int _)⟩
  · cases e
def powP : PV → PV → Option PV
  | .int i, .int j => if 0 ≤ j ∧ j ≤ 1000000 ∧ i.natAbs < 2 ^ 64 then some (.int (i ^ j.toNat)) else none
  | _, _ => none
theorem pow_ok : OpOk K hd .fz powP (rI CPow fun i j => .int (i ^ j.toNat)) := fun F H v w p q z Q cx rp rq e k => by
  cases p <;> cases q <;> try (cases e; done)
  rename_i i j
  have e : (if 0 ≤ j ∧ j ≤ 1000000 ∧ i.natAbs < 2 ^ 64 then some (PV.int (i ^ j.toNat)) else none) = some z := e
  split at e
  · rename_i hz
    cases e
    have h1 := rp.int; have h2 := rq.int
    subst h1 h2
    exact ⟨i, j, rfl, rfl, hz, fin cx k (.int _)⟩
  · cases e
def shlP : PV → PV → Option PV
  | .int i, .int j => if 0 ≤ j ∧ j ≤ 1000000 ∧ i.natAbs < 2 ^ 64 then some (.int (i * 2 ^ j.toNat)) else none
  | _, _ => none
theorem shl_ok : OpOk K hd .fz shlP (rI CPow fun i j => .int (i * 2 ^ j.toNat)) := fun F H v w p q z Q cx rp rq e k => by
  cases p <;> cases q <;> try (cases e; done)
  rename_i i j
  have e : (if 0 ≤ j ∧ j ≤ 1000000 ∧ i.natAbs < 2 ^ 64 then some (PV.int (i * 2 ^ j.toNat)) else none) = some z := e
  split at e
  · rename_i hz
    cases e
    have h1 := rp.int; have h2 := rq.int
    subst h1 h2
    exact ⟨i, j, rfl, rfl, hz, fin cx k (.int _)⟩
  · cases e
def shrP : PV → PV → Option PV
  | .int i, .int j => if 0 ≤ j then some (.int (i / 2 ^ j.toNat)) else none
  | _, _ => none
theorem shr_ok : OpOk K hd .fz shrP (rI (fun _ j => 0 ≤ j) fun i j => .int (i / 2 ^ j.toNat)) := fun F H v w p q z Q cx rp rq e k => by
  cases p <;> cases q <;> try (cases e; done)
  rename_i i j
  have e : (if 0 ≤ j then some (PV.int (i / 2 ^ j.toNat)) else none) = some z := e
  split at e
  · rename_i hz
    cases e
    have h1 := rp.int; have h2 := rq.int
    subst h1 h2
    exact ⟨i, j, rfl, rfl, hz, fin cx k (.int _)⟩
  · cases e
def negP : PV → Option PV
  | .int i => some (.int (-i))
  | _ => none
theorem neg_ok : UnOk K hd .fz negP (rU fun i => .int (-i)) := fun F H v p z Q cx rp e k => by
  cases p <;> try (cases e; done)
  cases e
  have h1 := rp.int
  subst h1
  exact ⟨_, rfl, fin cx k (.int _)⟩

/-! ### comparisons -/
def eqP (p q : PV) : Option PV := if okN 60 p && okN 60 q then some (.bl (veq p q)) else none
def neP (p q : PV) : Option PV := if okN 60 p && okN 60 q then some (.bl (!veq p q)) else none
theorem eq_ok : OpOk K hd .fz eqP (rEqD K) := fun F H v w p q z Q cx rp rq e k => by
  unfold eqP at e
  split at e
  · rename_i h
    cases e
    rw [Bool.and_eq_true] at h
    refine ⟨_, _, rp.dp cx h.1, rq.dp cx h.2, ok_shaped h.1, ok_shaped h.2, ?_⟩
    rw [veq_eqv p q 60 60 h.1 h.2]
    exact fin cx k (.bl _)
  · cases e
theorem ne_ok : OpOk K hd .fz neP (rNeD K) := fun F H v w p q z Q cx rp rq e k => by
  unfold neP at e
  split at e
  · rename_i h
    cases e
    rw [Bool.and_eq_true] at h
    refine ⟨_, _, rp.dp cx h.1, rq.dp cx h.2, ok_shaped h.1, ok_shaped h.2, ?_⟩
    rw [veq_eqv p q 60 60 h.1 h.2]
    exact fin cx k (.bl _)
  · cases e
theorem eqP_b : IsB eqP := fun p q z e => by
  unfold eqP at e
  split at e
  · cases e; exact ⟨_, rfl⟩
  · cases e
theorem neP_b : IsB neP := fun p q z e => by
  unfold neP at e
  split at e
  · cases e; exact ⟨_, rfl⟩
  · cases e
/-- ints, texts -/
def cmpP (f : Int → Int → Bool) (g : List Nat → List Nat → Bool) : PV → PV → Option PV
  | .int i, .int j => some (.bl (f i j))
  | .str x, .str y => some (.bl (g x y))
  | _, _ => none
theorem cmpP_b {f g} : IsB (cmpP f g) := fun p q z e => by
  cases p <;> cases q <;> first | (cases e; done) | (cases e; exact ⟨_, rfl⟩)
theorem cmp_ok {f : Int → Int → Bool} {g : List Nat → List Nat → Bool} {gs : Str → Str → Bool} (hg : ∀ a b : Str, gs a b = g a.cps.toList b.cps.toList) :
    OpOk K hd .fz (cmpP f g) (fun x y H Q => (rI0 fun i j => .bl (f i j)) x y H Q ∨ ∃ i j, x = .str i ∧ y = .str j ∧ Q (.bl (gs i j)) H) := fun F H v w p q z Q cx rp rq e k => by
  cases p <;> cases q <;> try (cases e; done)
  · rename_i i j
    cases e
    have h1 := rp.int; have h2 := rq.int
    subst h1 h2
    exact .inl ⟨i, j, rfl, rfl, fin cx k (.bl _)⟩
  · cases e
    obtain ⟨a, rfl, rfl⟩ := rp.str
    obtain ⟨b, rfl, rfl⟩ := rq.str
    refine .inr ⟨a, b, rfl, rfl, ?_⟩
    rw [hg]
    exact fin cx k (.bl _)
def ltP : PV → PV → Option PV := cmpP (fun i j => decide (i < j)) (fun x y => decide (x < y))
def leP : PV → PV → Option PV := cmpP (fun i j => decide (i ≤ j)) (fun x y => !decide (y < x))
def gtP : PV → PV → Option PV := cmpP (fun i j => decide (j < i)) (fun x y => decide (y < x))
def geP : PV → PV → Option PV := cmpP (fun i j => decide (j ≤ i)) (fun x y => !decide (x < y))
theorem op_ltA : OpR X (compareOp .Lt) (fun x y H Q => (rI0 fun i j => .bl (decide (i < j))) x y H Q ∨ ∃ i j, x = .str i ∧ y = .str j ∧ Q (.bl (decide (i.cps.toList < j.cps.toList))) H) := op_lt.or op_lt_str
theorem op_leA : OpR X (compareOp .LtE) (fun x y H Q => (rI0 fun i j => .bl (decide (i ≤ j))) x y H Q ∨ ∃ i j, x = .str i ∧ y = .str j ∧ Q (.bl (!decide (j.cps.toList < i.cps.toList))) H) := op_le.or op_le_str
theorem op_gtA : OpR X (compareOp .Gt) (fun x y H Q => (rI0 fun i j => .bl (decide (j < i))) x y H Q ∨ ∃ i j, x = .str i ∧ y = .str j ∧ Q (.bl (decide (j.cps.toList < i.cps.toList))) H) := op_gt.or op_gt_str
theorem op_geA : OpR X (compareOp .GtE) (fun x y H Q => (rI0 fun i j => .bl (decide (j ≤ i))) x y H Q ∨ ∃ i j, x = .str i ∧ y = .str j ∧ Q (.bl (!decide (i.cps.toList < j.cps.toList))) H) := op_ge.or op_ge_str
theorem lt_ok : OpOk K hd .fz ltP (fun x y H Q => (rI0 fun i j => .bl (decide (i < j))) x y H Q ∨ ∃ i j, x = .str i ∧ y = .str j ∧ Q (.bl (decide (i.cps.toList < j.cps.toList))) H) := cmp_ok (gs := fun i j => decide (i.cps.toList < j.cps.toList)) fun _ _ => rfl
theorem le_ok : OpOk K hd .fz leP (fun x y H Q => (rI0 fun i j => .bl (decide (i ≤ j))) x y H Q ∨ ∃ i j, x = .str i ∧ y = .str j ∧ Q (.bl (!decide (j.cps.toList < i.cps.toList))) H) := cmp_ok (gs := fun i j => !decide (j.cps.toList < i.cps.toList)) fun _ _ => rfl
theorem gt_ok : OpOk K hd .fz gtP (fun x y H Q => (rI0 fun i j => .bl (decide (j < i))) x y H Q ∨ ∃ i j, x = .str i ∧ y = .str j ∧ Q (.bl (decide (j.cps.toList < i.cps.toList))) H) := cmp_ok (gs := fun i j => decide (j.cps.toList < i.cps.toList)) fun _ _ => rfl
theorem ge_ok : OpOk K hd .fz geP (fun x y H Q => (rI0 fun i j => .bl (decide (j ≤ i))) x y H Q ∨ ∃ i j, x = .str i ∧ y = .str j ∧ Q (.bl (!decide (i.cps.toList < j.cps.toList))) H) := cmp_ok (gs := fun i j => !decide (i.cps.toList < j.cps.toList)) fun _ _ => rfl
theorem ltP_b : IsB ltP := cmpP_b
theorem leP_b : IsB leP := cmpP_b
theorem gtP_b : IsB gtP := cmpP_b
theorem geP_b : IsB geP := cmpP_b
/-- a sign in a text; data in a list -/
def memP : PV → PV → Option Bool
  | .str [n], .str y => some (decide (n ∈ y))
  | p, .lst xs => if okN 60 p && okN 60 (.lst xs) then some (xs.any fun z => veq z p) else none
  | _, _ => none
def inP' (p q : PV) : Option PV := (memP p q).map .bl
def ninP (p q : PV) : Option PV := (memP p q).map fun b => .bl (!b)
theorem inP_b : IsB inP' := fun p q z e => by
  unfold inP' at e
  obtain ⟨b, _, rfl⟩ := Option.map_eq_some_iff.mp e
  exact ⟨_, rfl⟩
theorem ninP_b : IsB ninP := fun p q z e => by
  unfold ninP at e
  obtain ⟨b, _, rfl⟩ := Option.map_eq_some_iff.mp e
  exact ⟨_, rfl⟩
abbrev rSignIn (neg : Bool) : R2 := fun x y H Q => ∃ (c : Nat) (z : Str), x = .str ⟨#[c]⟩ ∧ y = .str z ∧ Q (.bl (if neg then !decide (c ∈ z.cps.toList) else decide (c ∈ z.cps.toList))) H
theorem any_eqv {q : PV} {n : Nat} (o : okN n q = true) : ∀ (xs : List PV) (m : Nat), okNs m xs = true → ((toDs xs).any fun z => PyData.eqv z (toD q)) = xs.any fun z => veq z q
  | [], _, _ => rfl
  | x :: xs, m, h => by
    simp only [okNs, Bool.and_eq_true] at h
    simp only [toDs, List.any_cons]
    rw [veq_eqv x q m n h.1 o, any_eqv o xs m h.2]
theorem mem_ok' {F H : Hp} {v w : V} {p q : PV} {b : Bool} (cx : Ctx hd F H) (rp : RpB K hd F H v p) (rq : RpB K hd F H w q) (e : memP p q = some b) :
    (∃ (c : Nat) (z : Str), v = .str ⟨#[c]⟩ ∧ w = .str z ∧ b = decide (c ∈ z.cps.toList)) ∨
      ∃ d ds, Dp K H v d ∧ Dp K H w (.list ds) ∧ SeqAt.shaped d = true ∧ SeqAt.shaped (.list ds) = true ∧ b = (ds.any fun z => PyData.eqv z d) := by
  unfold memP at e
  split at e
  · rename_i n y
    cases e
    obtain ⟨a, rfl, ha⟩ := rp.str
    obtain ⟨z, rfl, rfl⟩ := rq.str
    refine .inl ⟨n, z, ?_, rfl, rfl⟩
    have : a = ⟨#[n]⟩ := by
      obtain ⟨l⟩ := a
      have hl : l.toList = [n] := ha
      have h2 : l = #[n] := by simpa using congrArg List.toArray hl
      rw [h2]
    rw [this]
  · rename_i xs _
    split at e
    · rename_i h
      cases e
      rw [Bool.and_eq_true] at h
      refine .inr ⟨toD _, toDs _, rp.dp cx h.1, rq.dp cx h.2, ok_shaped h.1, ok_shaped h.2, ?_⟩
      exact (any_eqv h.1 _ 59 (by simpa [okN] using h.2)).symm
    · cases e
  · cases e
theorem in_ok : OpOk K hd .fz inP' (fun x y H Q => (∃ (c : Nat) (z : Str), x = .str ⟨#[c]⟩ ∧ y = .str z ∧ Q (.bl (decide (c ∈ z.cps.toList))) H) ∨ rInD K x y H Q) := fun F H v w p q z Q cx rp rq e k => by
  unfold inP' at e
  obtain ⟨b, e1, rfl⟩ := Option.map_eq_some_iff.mp e
  rcases mem_ok' cx rp rq e1 with ⟨n, y, rfl, rfl, rfl⟩ | ⟨d, ds, h1, h2, h3, h4, rfl⟩
  · exact .inl ⟨n, y, rfl, rfl, fin cx k (.bl _)⟩
  · exact .inr ⟨d, ds, h1, h2, h3, h4, fin cx k (.bl _)⟩
theorem nin_ok : OpOk K hd .fz ninP (fun x y H Q => (∃ (c : Nat) (z : Str), x = .str ⟨#[c]⟩ ∧ y = .str z ∧ Q (.bl (!decide (c ∈ z.cps.toList))) H) ∨ rNotInD K x y H Q) := fun F H v w p q z Q cx rp rq e k => by
  unfold ninP at e
  obtain ⟨b, e1, rfl⟩ := Option.map_eq_some_iff.mp e
  rcases mem_ok' cx rp rq e1 with ⟨n, y, rfl, rfl, rfl⟩ | ⟨d, ds, h1, h2, h3, h4, rfl⟩
  · exact .inl ⟨n, y, rfl, rfl, fin cx k (.bl _)⟩
  · exact .inr ⟨d, ds, h1, h2, h3, h4, fin cx k (.bl _)⟩
theorem op_inA (hu : X.A.units + 65 < cLine) : OpR X (compareOp .In) (fun x y H Q => (∃ (c : Nat) (z : Str), x = .str ⟨#[c]⟩ ∧ y = .str z ∧ Q (.bl (decide (c ∈ z.cps.toList))) H) ∨ rInD X.K x y H Q) := op_in_sign.or (op_inD hu)
theorem op_ninA (hu : X.A.units + 65 < cLine) : OpR X (compareOp .NotIn) (fun x y H Q => (∃ (c : Nat) (z : Str), x = .str ⟨#[c]⟩ ∧ y = .str z ∧ Q (.bl (!decide (c ∈ z.cps.toList))) H) ∨ rNotInD X.K x y H Q) := op_notIn_sign.or (op_notInD hu)
/-- is None -/
def isnP : PV → PV → Option PV
  | .non, .non => some (.bl true)
  | .hand, _ => none
  | _, .non => some (.bl false)
  | _, _ => none
def nisP : PV → PV → Option PV
  | .non, .non => some (.bl false)
  | .hand, _ => none
  | _, .non => some (.bl true)
  | _, _ => none
theorem RpB.nn {F H : Hp} {v : V} {p : PV} (r : RpB K hd F H v p) : decide (v = .non) = (match p with | .non => true | _ => false) := by
  rcases r with r | ⟨a, u, rfl, h1, h2, h3, h4⟩
  · cases r <;> simp
  · cases u <;> cases p <;> first | exact False.elim h4 | simp
theorem isn_ok : OpOk K hd .fz isnP (fun x y H Q => y = .non ∧ Q (.bl (decide (x = .non))) H) := fun F H v w p q z Q cx rp rq e k => by
  have hn := rp.nn
  cases p <;> cases q <;> first | (cases e; done) | (cases e; exact ⟨rq.non, by rw [hn]; exact fin cx k (.bl _)⟩)
theorem nis_ok : OpOk K hd .fz nisP (fun x y H Q => y = .non ∧ Q (.bl (!decide (x = .non))) H) := fun F H v w p q z Q cx rp rq e k => by
  have hn := rp.nn
  cases p <;> cases q <;> first | (cases e; done) | (cases e; exact ⟨rq.non, by rw [hn]; exact fin cx k (.bl _)⟩)
theorem isnP_b : IsB isnP := fun p q z e => by
  cases p <;> cases q <;> first | (cases e; done) | (cases e; exact ⟨_, rfl⟩)
theorem nisP_b : IsB nisP := fun p q z e => by
  cases p <;> cases q <;> first | (cases e; done) | (cases e; exact ⟨_, rfl⟩)

/-! ### subscripts and slices of lists, tuples, texts -/
def ixP : PV → PV → Option PV
  | .lst xs, .int i => atI xs i
  | .tup xs, .int i => atI xs i
  | .str x, .int i => if x.length ≤ sizeLine then (match atI x i with | some n => some (.str [n]) | none => none) else none
  | _, _ => none
theorem atI_rep {F : Hp} {vs : List V} {ps : List PV} {i : Int} {p : PV} (l : RpL K hd F vs ps) (e : atI ps i = some p) : ∃ v, atI vs i = some v ∧ Rp K hd F v p := by
  unfold atI at e ⊢
  rw [l.length]
  cases q : ixN ps.length i with
  | none => rw [q] at e; cases e
  | some j =>
    rw [q] at e
    exact l.get e
theorem ix_ok : OpOk K hd .fz ixP (rIx K) := fun F H v w p q z Q cx rp rq e k => by
  cases p <;> cases q <;> try (cases e; done)
  · rename_i x i
    have e : (if x.length ≤ sizeLine then (match atI x i with | some n => some (PV.str [n]) | none => none) else none) = some z := e
    split at e
    · rename_i hz
      split at e
      · rename_i n hn
        cases e
        obtain ⟨a, rfl, rfl⟩ := rp.str
        have h2 := rq.int
        subst h2
        exact .inr (.inr ⟨a, i, n, rfl, rfl, by simpa [Str.length] using hz, hn, fin cx k (rstr _ _ rfl)⟩)
      · cases e
    · cases e
  · rename_i xs i
    obtain ⟨a, vs, rfl, ha, la⟩ := rp.tup
    have h2 := rq.int
    subst h2
    obtain ⟨v, h1, h2⟩ := atI_rep la e
    exact .inr (.inl ⟨a, vs, i, v, rfl, rfl, SqT.of (cx.sub _ _ ha), h1, fin cx k h2⟩)
  · rename_i xs i
    obtain ⟨a, vs, rfl, ha, la⟩ := RpB.lst cx.sub rp
    have h2 := rq.int
    subst h2
    obtain ⟨v, h1, h2⟩ := atI_rep la e
    exact .inl ⟨a, vs, i, v, rfl, rfl, SqL.of ha, h1, fin cx k h2⟩
def cutP {α : Type} (xs : List α) (lo hi : Option Int) : List α := (xs.drop (HT.sIx xs.length 0 lo)).take (HT.sIx xs.length xs.length hi - HT.sIx xs.length 0 lo)
def slP : PV → Option Int → Option Int → Option PV
  | .lst xs, lo, hi => some (.lst (cutP xs lo hi))
  | .tup xs, lo, hi => some (.tup (cutP xs lo hi))
  | .str x, lo, hi => if x.length ≤ sizeLine then some (.str (cutP x lo hi)) else none
  | .scr ns, lo, hi => some (.lst ((cutP ns lo hi).map .int))
  | _, _, _ => none
theorem cut_rep {F : Hp} {vs : List V} {ps : List PV} (l : RpL K hd F vs ps) (lo hi : Option Int) : RpL K hd F (cutV vs lo hi) (cutP ps lo hi) := by
  unfold cutV cutP
  rw [l.length]
  exact (l.drop _).take _
theorem cut_all {α : Type} {xs : List α} {lo hi : Option Int} (h : HT.sIx xs.length 0 lo = 0 ∧ HT.sIx xs.length xs.length hi = xs.length) : cutP xs lo hi = xs := by
  unfold cutP
  rw [h.1, h.2]
  simp
abbrev rSlX' (K : PySem.W.Frag) : V → Option Int → Option Int → Hp → VK → Prop := fun x lo hi H Q => rSlL K x lo hi H Q ∨ (rSlA K x lo hi H Q ∨ rSlS x lo hi H Q)
theorem sl_any : SlR X (rSlX' X.K) := sl_list.or (sl_tupA.or sl_str)
theorem sl_ok : SlOk K hd .fz slP (rSlX' K) := fun F H v p z lo hi Q cx rp e k => by
  cases p <;> try (cases e; done)
  · rename_i x
    have e : (if x.length ≤ sizeLine then some (PV.str (cutP x lo hi)) else none) = some z := e
    split at e
    · rename_i hz
      cases e
      obtain ⟨a, rfl, rfl⟩ := rp.str
      refine .inr (.inr ⟨a, rfl, by simpa [Str.length] using hz, fin cx k (rstr _ _ ?_)⟩)
      unfold cutS cutP
      have hl : a.length = a.cps.toList.length := by simp [Str.length]
      rw [hl]
    · cases e
  · rename_i xs
    cases e
    obtain ⟨a, vs, rfl, ha, la⟩ := rp.tup
    have hl := la.length
    refine .inr (.inl ⟨a, vs, rfl, SqT.of (cx.sub _ _ ha), fun h => ?_, fun h p hp => ?_⟩)
    · rw [hl] at h
      rw [cut_all h] at k
      exact fin cx k (.tup ha la)
    · exact k _ _ _ (Step.newF cx.sub hp) (.tup upd_same ((cut_rep la lo hi).mono (Sub.new (cx.sub.none hp))))
  · rename_i xs
    cases e
    obtain ⟨a, vs, rfl, ha, la⟩ := RpB.lst cx.sub rp
    refine .inl ⟨a, vs, rfl, SqL.of ha, fun p hp => ?_⟩
    exact k _ _ _ (Step.newF cx.sub hp) (.lst upd_same ((cut_rep la lo hi).mono (Sub.new (cx.sub.none hp))))
  · rename_i ns
    cases e
    obtain ⟨a, rfl, ha⟩ := RpB.scr cx.sub rp
    refine .inl ⟨a, _, rfl, cx.sub.sqL ha, fun p hp => ?_⟩
    have e1 : cutV (ns.map V.int) lo hi = (cutP ns lo hi).map V.int := by
      unfold cutV cutP
      simp [List.map_take, List.map_drop]
    rw [e1]
    exact k _ _ _ (Step.newF cx.sub hp) (.lst upd_same (RpL.ints _))
/-- .. a new list for a slot of its own -/
def slL : PV → Option Int → Option Int → Option PV
  | .lst xs, lo, hi => some (.lst (cutP xs lo hi))
  | _, _, _ => none
theorem slL_ok : SlOk K hd .fr slL (rSlL K) := fun F H v p z lo hi Q cx rp e k => by
  cases p <;> try (cases e; done)
  cases e
  obtain ⟨a, vs, rfl, ha, la⟩ := RpB.lst cx.sub rp
  refine ⟨a, vs, rfl, SqL.of ha, fun p hp => ?_⟩
  exact k _ _ _ (Step.new cx.sub hp) (RpM.new (o := .lst _) (p := .lst _) cx hp (show RpL K hd F _ _ from cut_rep la lo hi))
end
end PL

set_option Elab.async false
set_option linter.all false
set_option maxRecDepth 100000
set_option maxHeartbeats 1000000
/-! PL, part h: built-ins, methods, stores, defs. -/
namespace PL
open PySem PySem.Spec PyProof.Rows L2
section
variable {X : Cx} {K : PySem.W.Frag} {hd : Option Addr} {F H : Hp} {v : V} {p : PV} {md : Md}
/-! ### built-ins of one argument -/
def un (f : PV → Option PV) : List PV → Option PV
  | [p] => f p
  | _ => none
def bi (f : PV → PV → Option PV) : List PV → Option PV
  | [p, q] => f p q
  | _ => none
theorem call1 {f : PV → Option PV} {r : List V → Hp → VK → Prop} (h : ∀ (F H : Hp) (v : V) (p z : PV) (Q : VK), Ctx hd F H → RpB K hd F H v p → f p = some z → (∀ v' F' H', Step none F H F' H' → RpM md K hd H F' H' v' z → Q v' H') → r [v] H Q) : CallOk K hd md (un f) r :=
  fun F H vs ps z Q cx rl e k => by
    match ps, e, rl with
    | [p], e, rl =>
      obtain ⟨v, rfl, rv⟩ := rl.inv1
      exact h F H v p z Q cx rv e k
theorem call2 {f : PV → PV → Option PV} {r : List V → Hp → VK → Prop} (h : ∀ (F H : Hp) (v w : V) (p q z : PV) (Q : VK), Ctx hd F H → RpB K hd F H v p → RpB K hd F H w q → f p q = some z → (∀ v' F' H', Step none F H F' H' → RpM md K hd H F' H' v' z → Q v' H') → r [v, w] H Q) : CallOk K hd md (bi f) r :=
  fun F H vs ps z Q cx rl e k => by
    match ps, e, rl with
    | [p, q], e, rl =>
      obtain ⟨v, w, rfl, rv, rw⟩ := rl.inv2
      exact h F H v w p q z Q cx rv rw e k
def lenP : PV → Option PV
  | .str x => if x.length ≤ sizeLine then some (.int x.length) else none
  | .lst xs => some (.int xs.length)
  | .tup xs => some (.int xs.length)
  | .scr xs => some (.int xs.length)
  | _ => none
theorem len_ok : CallOk K hd .fz (un lenP) (fun xs H Q => ∃ x n, xs = [x] ∧ LenV K x H n ∧ Q (.int n) H) := call1 fun F H v p z Q cx rp e k => by
  cases p <;> try (cases e; done)
  · rename_i x
    have e : (if x.length ≤ sizeLine then some (PV.int x.length) else none) = some z := e
    split at e
    · rename_i hz
      cases e
      obtain ⟨a, rfl, rfl⟩ := rp.str
      have ha : a.length = a.cps.toList.length := by simp [Str.length]
      exact ⟨_, a.cps.toList.length, rfl, ⟨by rw [ha]; exact hz, ha.symm⟩, fin cx k (.int _)⟩
    · cases e
  · cases e
    obtain ⟨a, vs, rfl, ha, la⟩ := rp.tup
    exact ⟨_, _, rfl, .inr ⟨vs, SqT.of (cx.sub _ _ ha), la.length.symm⟩, fin cx k (.int _)⟩
  · cases e
    obtain ⟨a, vs, rfl, ha, la⟩ := RpB.lst cx.sub rp
    exact ⟨_, _, rfl, .inl ⟨vs, SqL.of ha, la.length.symm⟩, fin cx k (.int _)⟩
  · rename_i ns
    cases e
    obtain ⟨a, rfl, ha⟩ := RpB.scr cx.sub rp
    exact ⟨_, ns.length, rfl, .inl ⟨_, cx.sub.sqL ha, by simp⟩, fin cx k (.int _)⟩
def absP : PV → Option PV
  | .int i => some (.int (if i < 0 then -i else i))
  | _ => none
theorem abs_ok : CallOk K hd .fz (un absP) (fun xs H Q => ∃ i, xs = [.int i] ∧ Q (.int (if i < 0 then -i else i)) H) := call1 fun F H v p z Q cx rp e k => by
  cases p <;> try (cases e; done)
  cases e
  have h := rp.int
  subst h
  exact ⟨_, rfl, fin cx k (.int _)⟩
def intP : PV → Option PV
  | .int i => some (.int i)
  | .bl b => some (.int (if b then 1 else 0))
  | _ => none
theorem int_ok : CallOk K hd .fz (un intP) (fun xs H Q => (∃ i, xs = [.int i] ∧ Q (.int i) H) ∨ ∃ k, xs = [.bl k] ∧ Q (.int (if k then 1 else 0)) H) := call1 fun F H v p z Q cx rp e k => by
  cases p <;> try (cases e; done)
  · cases e
    have h := rp.bl
    subst h
    exact .inr ⟨_, rfl, fin cx k (.int _)⟩
  · cases e
    have h := rp.int
    subst h
    exact .inl ⟨_, rfl, fin cx k (.int _)⟩
/-- a list of ints -/
def intsOf : List PV → Option (List Int)
  | [] => some []
  | .int i :: ps => (intsOf ps).map (i :: ·)
  | _ => none
theorem intsOf_map (ns : List Int) : intsOf (ns.map PV.int) = some ns := by
  induction ns with
  | nil => rfl
  | cons n ns ih => show (intsOf (ns.map PV.int)).map (n :: ·) = _; rw [ih]; rfl
theorem intsOf_eq : ∀ {ps : List PV} {ns : List Int}, intsOf ps = some ns → ps = ns.map PV.int
  | [], ns, h => by cases h; rfl
  | .int i :: ps, ns, h => by
    obtain ⟨ms, h1, rfl⟩ := Option.map_eq_some_iff.mp (show (intsOf ps).map (i :: ·) = some ns from h)
    rw [intsOf_eq h1]
    rfl
  | .non :: _, _, h | .bl _ :: _, _, h | .str _ :: _, _, h | .tup _ :: _, _, h | .lst _ :: _, _, h | .dct _ :: _, _, h | .dcT _ :: _, _, h | .hand :: _, _, h | .scr _ :: _, _, h => by cases h
theorem RpL.ints_inv : ∀ {ns : List Int} {vs : List V}, RpL K hd F vs (ns.map PV.int) → vs = ns.map V.int
  | [], vs, h => by cases h; rfl
  | n :: ns, vs, h => by
    cases h with
    | cons a b =>
      cases a
      rw [RpL.ints_inv b]
      rfl
def sumP : PV → Option PV
  | .lst xs => (intsOf xs).map fun ns => .int ns.sum
  | _ => none
theorem sum_ok : CallOk K hd .fz (un sumP) (rSum K) := call1 fun F H v p z Q cx rp e k => by
  cases p <;> try (cases e; done)
  rename_i xs
  obtain ⟨ns, e1, rfl⟩ := Option.map_eq_some_iff.mp (show (intsOf xs).map (fun ns => PV.int ns.sum) = some z from e)
  have e2 := intsOf_eq e1
  subst e2
  obtain ⟨a, vs, rfl, ha, la⟩ := RpB.lst cx.sub rp
  have e3 := RpL.ints_inv la
  subst e3
  exact ⟨a, ns, rfl, SqL.of ha, fin cx k (.int _)⟩
def blsOf : List PV → Option (List Bool)
  | [] => some []
  | .bl i :: ps => (blsOf ps).map (i :: ·)
  | _ => none
theorem blsOf_map (ns : List Bool) : blsOf (ns.map PV.bl) = some ns := by
  induction ns with
  | nil => rfl
  | cons n ns ih => show (blsOf (ns.map PV.bl)).map (n :: ·) = _; rw [ih]; rfl
theorem blsOf_eq : ∀ {ps : List PV} {ns : List Bool}, blsOf ps = some ns → ps = ns.map PV.bl
  | [], ns, h => by cases h; rfl
  | .bl i :: ps, ns, h => by
    obtain ⟨ms, h1, rfl⟩ := Option.map_eq_some_iff.mp (show (blsOf ps).map (i :: ·) = some ns from h)
    rw [blsOf_eq h1]
    rfl
  | .non :: _, _, h | .int _ :: _, _, h | .str _ :: _, _, h | .tup _ :: _, _, h | .lst _ :: _, _, h | .dct _ :: _, _, h | .dcT _ :: _, _, h | .hand :: _, _, h | .scr _ :: _, _, h => by cases h
theorem RpL.bls_inv : ∀ {ns : List Bool} {vs : List V}, RpL K hd F vs (ns.map PV.bl) → vs = ns.map V.bl
  | [], vs, h => by cases h; rfl
  | n :: ns, vs, h => by
    cases h with
    | cons a b =>
      cases a
      rw [RpL.bls_inv b]
      rfl
def allP : PV → Option PV
  | .lst xs => (blsOf xs).map fun ns => .bl (ns.all id)
  | _ => none
def anyP : PV → Option PV
  | .lst xs => (blsOf xs).map fun ns => .bl (ns.any id)
  | _ => none
theorem all_ok : CallOk K hd .fz (un allP) (rAll K) := call1 fun F H v p z Q cx rp e k => by
  cases p <;> try (cases e; done)
  rename_i xs
  obtain ⟨ns, e1, rfl⟩ := Option.map_eq_some_iff.mp (show (blsOf xs).map (fun ns => PV.bl (ns.all id)) = some z from e)
  have e2 := blsOf_eq e1
  subst e2
  obtain ⟨a, vs, rfl, ha, la⟩ := RpB.lst cx.sub rp
  have e3 := RpL.bls_inv la
  subst e3
  exact ⟨a, ns, rfl, SqL.of ha, fin cx k (.bl _)⟩
theorem any_ok : CallOk K hd .fz (un anyP) (rAny K) := call1 fun F H v p z Q cx rp e k => by
  cases p <;> try (cases e; done)
  rename_i xs
  obtain ⟨ns, e1, rfl⟩ := Option.map_eq_some_iff.mp (show (blsOf xs).map (fun ns => PV.bl (ns.any id)) = some z from e)
  have e2 := blsOf_eq e1
  subst e2
  obtain ⟨a, vs, rfl, ha, la⟩ := RpB.lst cx.sub rp
  have e3 := RpL.bls_inv la
  subst e3
  exact ⟨a, ns, rfl, SqL.of ha, fin cx k (.bl _)⟩
def tupP : PV → Option PV
  | .lst xs => some (.tup xs)
  | .tup xs => some (.tup xs)
  | _ => none
theorem tup_ok : CallOk K hd .fz (un tupP) (fun xs H Q => ∃ p ys, xs = [.ref p] ∧ ((SqL K H p ys ∧ ∀ l, H l = none → Q (.ref l) (upd H l (.tup ys))) ∨ (SqT K H p ys ∧ Q (.ref p) H))) := call1 fun F H v p z Q cx rp e k => by
  cases p <;> try (cases e; done)
  · cases e
    obtain ⟨a, vs, rfl, ha, la⟩ := rp.tup
    exact ⟨a, vs, rfl, .inr ⟨SqT.of (cx.sub _ _ ha), fin cx k (.tup ha la)⟩⟩
  · cases e
    obtain ⟨a, vs, rfl, ha, la⟩ := RpB.lst cx.sub rp
    exact ⟨a, vs, rfl, .inl ⟨SqL.of ha, fun l hl => k _ _ _ (Step.newF cx.sub hl) (.tup upd_same (la.mono (Sub.new (cx.sub.none hl))))⟩⟩
def lstP : PV → Option PV
  | .lst xs => some (.lst xs)
  | .tup xs => some (.lst xs)
  | .scr ns => some (.lst (ns.map .int))
  | _ => none
theorem lst_ok : CallOk K hd .fr (un lstP) (fun xs H Q => ∃ p ys, xs = [.ref p] ∧ (SqL K H p ys ∨ SqT K H p ys) ∧ ∀ l, H l = none → Q (.ref l) (upd H l (.lst ys))) := call1 fun F H v p z Q cx rp e k => by
  cases p <;> try (cases e; done)
  · cases e
    obtain ⟨a, vs, rfl, ha, la⟩ := rp.tup
    exact ⟨a, vs, rfl, .inr (SqT.of (cx.sub _ _ ha)), fun l hl => k _ _ _ (Step.new cx.sub hl) (RpM.new (o := .lst _) (p := .lst _) cx hl (show RpL K hd F _ _ from la))⟩
  · cases e
    obtain ⟨a, vs, rfl, ha, la⟩ := RpB.lst cx.sub rp
    exact ⟨a, vs, rfl, .inl (SqL.of ha), fun l hl => k _ _ _ (Step.new cx.sub hl) (RpM.new (o := .lst _) (p := .lst _) cx hl (show RpL K hd F _ _ from la))⟩
  · cases e
    obtain ⟨a, rfl, ha⟩ := RpB.scr cx.sub rp
    exact ⟨a, _, rfl, .inl (cx.sub.sqL ha), fun l hl => k _ _ _ (Step.new cx.sub hl) (RpM.new (o := .lst _) (p := .lst _) cx hl (show RpL K hd F _ _ from RpL.ints _))⟩
/-- ints in order -/
def insI (x : Int) : List Int → List Int
  | [] => [x]
  | y :: ys => if x ≤ y then x :: y :: ys else y :: insI x ys
def sortI : List Int → List Int
  | [] => []
  | x :: xs => insI x (sortI xs)
theorem insI_perm (x : Int) : ∀ ys, (insI x ys).Perm (x :: ys)
  | [] => List.Perm.refl _
  | y :: ys => by
    unfold insI
    split
    · exact List.Perm.refl _
    · exact ((insI_perm x ys).cons y).trans (List.Perm.swap x y ys)
theorem sortI_perm : ∀ xs, (sortI xs).Perm xs
  | [] => List.Perm.refl _
  | x :: xs => (insI_perm x _).trans ((sortI_perm xs).cons x)
theorem insI_sorted (x : Int) : ∀ ys, ys.Pairwise (· ≤ ·) → (insI x ys).Pairwise (· ≤ ·)
  | [], _ => by simp [insI]
  | y :: ys, h => by
    unfold insI
    obtain ⟨h1, h2⟩ := List.pairwise_cons.mp h
    split
    · rename_i hx
      exact List.pairwise_cons.mpr ⟨fun z hz => by rcases List.mem_cons.mp hz with rfl | hz; exact hx; exact Int.le_trans hx (h1 z hz), h⟩
    · rename_i hx
      refine List.pairwise_cons.mpr ⟨fun z hz => ?_, insI_sorted x ys h2⟩
      rcases List.mem_cons.mp ((insI_perm x ys).mem_iff.mp hz) with rfl | hz
      · omega
      · exact h1 z hz
theorem sortI_sorted : ∀ xs, (sortI xs).Pairwise (· ≤ ·)
  | [] => List.Pairwise.nil
  | x :: xs => insI_sorted x _ (sortI_sorted xs)
theorem sorted_unique {xs ys : List Int} (h1 : xs.Pairwise (· ≤ ·)) (h2 : ys.Pairwise (· ≤ ·)) (p : xs.Perm ys) : xs = ys :=
  List.Perm.eq_of_pairwise (fun _ _ _ _ a b => Int.le_antisymm a b) h1 h2 p
def sortedI : PV → Option PV
  | .lst xs => (intsOf xs).map fun ns => .lst ((sortI ns).map .int)
  | _ => none
theorem sortedI_ok : CallOk K hd .fr (un sortedI) (rSortedI K) := call1 fun F H v p z Q cx rp e k => by
  cases p <;> try (cases e; done)
  rename_i xs
  obtain ⟨ns, e1, rfl⟩ := Option.map_eq_some_iff.mp (show (intsOf xs).map (fun ns => PV.lst ((sortI ns).map .int)) = some z from e)
  have e2 := intsOf_eq e1
  subst e2
  obtain ⟨a, vs, rfl, ha, la⟩ := RpB.lst cx.sub rp
  have e3 := RpL.ints_inv la
  subst e3
  refine ⟨a, ns, rfl, SqL.of ha, fun ns' l hp hs hl => ?_⟩
  have e4 : ns' = sortI ns := sorted_unique hs (sortI_sorted ns) (hp.trans (sortI_perm ns).symm)
  subst e4
  exact k _ _ _ (Step.new cx.sub hl) (RpM.new (o := .lst _) (p := .lst _) cx hl (show RpL K hd F _ _ from RpL.ints _))
def max2P : PV → PV → Option PV
  | .int i, .int j => some (.int (if j > i then j else i))
  | _, _ => none
theorem max2_ok : CallOk K hd .fz (bi max2P) (fun xs H Q => ∃ i j, xs = [.int i, .int j] ∧ Q (.int (if j > i then j else i)) H) := call2 fun F H v w p q z Q cx rp rq e k => by
  cases p <;> cases q <;> try (cases e; done)
  cases e
  have h1 := rp.int; have h2 := rq.int
  subst h1 h2
  exact ⟨_, _, rfl, fin cx k (.int _)⟩
def min2P : PV → PV → Option PV
  | .int i, .int j => some (.int (if j < i then j else i))
  | _, _ => none
theorem min2_ok : CallOk K hd .fz (bi min2P) (fun xs H Q => ∃ i j, xs = [.int i, .int j] ∧ Q (.int (if j < i then j else i)) H) := call2 fun F H v w p q z Q cx rp rq e k => by
  cases p <;> cases q <;> try (cases e; done)
  cases e
  have h1 := rp.int; have h2 := rq.int
  subst h1 h2
  exact ⟨_, _, rfl, fin cx k (.int _)⟩
/-- isinstance(x, T) -/
def isiP (T : String) : PV → Option PV
  | .non => some (.bl false)
  | .bl _ => some (.bl (T == "bool" || T == "int"))
  | .int _ => some (.bl (T == "int"))
  | .str _ => some (.bl (T == "str"))
  | .tup _ => some (.bl (T == "tuple"))
  | .lst _ => some (.bl (T == "list"))
  | _ => none
theorem p_isi {T : String} {c : Fc} {e : Expr} {p p' pos : Pos} {x : Str} {d : DE} {m : Md} (hT : T ∈ ["int", "bool", "str", "tuple", "list"]) (hg : Gl X "isinstance") (hm : X.mg "isinstance" = none) (hgT : Gl X x) (hmT : X.mg x = none) (hv : bootBuiltins x = some (.type T)) (h : PEp X c m e d)
    (hn : x ≠ "__name__" := by decide +kernel) (hdb : (x == ("__debug__" : Str)) = false := by decide +kernel)
    (s1 : starEach [e, .Name x p'] X.env = (false, eval e X.env) :: starEach [.Name x p'] X.env := by rfl) (s2 : starEach [.Name x p'] X.env = (false, eval (.Name x p') X.env) :: starEach [] X.env := by rfl) (hpl : (backTo pos (starEach [.Name x p'] X.env)).any (·.1) = false := by rfl) (hK : X.K = c.K := by rfl) :
    PEp X c .fz (.Call (.Name "isinstance" p) [e, .Name x p'] [] pos) (dUn (isiP T) d) :=
  pe_imp (pe_callB call_isi hg hm boot_isinstance (pa_cons h (pa_cons (pe_bltn (v := .ty T) hgT hmT hv rfl hn hdb) pa_nil s2) s1) (by decide +kernel) (by decide +kernel) s1 hpl) fun σ H Q ⟨F, ρ, hs, z, hs', g, e, k⟩ => by
    obtain ⟨q, e1, e3⟩ := dUn_some e
    refine ⟨F, ρ, hs, q, hs', g, e1, fun v F1 H1 s g1 r => ?_⟩
    have rb := r.bw
    have cx := g1.ctx
    have fin' : ∀ (t : String) (b : Bool), TyX X.K H1 v (.type t) → kitB t T = some b → isiP T q = some (.bl b) → ∃ (x c : V) (t u : Value) (b : Bool), [v, V.ty T] = [x, c] ∧ ClsV c u ∧ TyX X.K H1 x t ∧ PySem.W.kitOne X.K t u = some b ∧ Q (.bl b) H1 := fun t b h1 h2 h3 => by
      rw [e3] at h3
      cases h3
      exact ⟨v, .ty T, .type t, .type T, b, rfl, .ty T, h1, kit_ty h2, k _ F1 H1 s g1 (.bl _)⟩
    simp only [List.mem_cons, List.not_mem_nil, or_false] at hT
    cases q with
    | non =>
      have := rb.non; subst this
      exact fin' "NoneType" false (.base .non) (by rcases hT with h | h | h | h | h <;> subst h <;> decide +kernel) rfl
    | bl b =>
      have := rb.bl; subst this
      exact fin' "bool" (T == "bool" || T == "int") (.base (.bl b)) (by rcases hT with h | h | h | h | h <;> subst h <;> decide +kernel) rfl
    | int i =>
      have := rb.int; subst this
      exact fin' "int" (T == "int") (.base (.int i)) (by rcases hT with h | h | h | h | h <;> subst h <;> decide +kernel) rfl
    | str y =>
      obtain ⟨a, rfl, _⟩ := rb.str
      exact fin' "str" (T == "str") (.base (.str a)) (by rcases hT with h | h | h | h | h <;> subst h <;> decide +kernel) rfl
    | tup ys =>
      obtain ⟨a, vs, rfl, ha, la⟩ := rb.tup
      exact fin' "tuple" (T == "tuple") (.base (.tup (cx.sub _ _ ha))) (by rcases hT with h | h | h | h | h <;> subst h <;> decide +kernel) rfl
    | lst ys =>
      obtain ⟨a, vs, rfl, ha, la⟩ := RpB.lst cx.sub rb
      exact fin' "list" (T == "list") (.base (.lst ha)) (by rcases hT with h | h | h | h | h <;> subst h <;> decide +kernel) rfl
    | _ => cases e3
end
/-! ### tuple(range(..)), list(range(..)) -/
def rgP (mk : List PV → PV) : PV → PV → Option PV
  | .int a, .int b => if -(2 ^ 62) ≤ a ∧ a < 2 ^ 62 ∧ -(2 ^ 62) ≤ b ∧ b < 2 ^ 62 ∧ (b - a).toNat ≤ 2 ^ 24 then some (mk (rngL a (b - a).toNat)) else none
  | _, _ => none
section
variable {X : Cx} {c : Fc} {a b e : Expr} {da db : DE} {p p' pos pos' : Pos} {m1 m2 : Md}
theorem rg_rep {K : PySem.W.Frag} {hd : Option Addr} {F : Hp} (a b : Int) : RpL K hd F (rgV a b) (rngL a (b - a).toNat) := by
  unfold rgV rngL
  generalize List.range (b - a).toNat = l
  induction l with
  | nil => exact .nil
  | cons x l ih => exact .cons (.int _) ih
theorem p_tupRg2 (hc : X.calm = true) (hg : Gl X "tuple") (hm : X.mg "tuple" = none) (hg' : Gl X "range") (hm' : X.mg "range" = none) (ha : PEp X c m1 a da) (hb : PEp X c m2 b db)
    (na : starEach [a, b] X.env = (false, eval a X.env) :: starEach [b] X.env := by rfl) (nb : starEach [b] X.env = (false, eval b X.env) :: starEach [] X.env := by rfl) (hp : (backTo pos' (starEach [b] X.env)).any (·.1) = false := by rfl)
    (ns : starEach [.Call (.Name "range" p') [a, b] [] pos'] X.env = (false, eval (.Call (.Name "range" p') [a, b] [] pos') X.env) :: starEach [] X.env := by rfl) :
    PEp X c .fz (.Call (.Name "tuple" p) [.Call (.Name "range" p') [a, b] [] pos'] [] pos) (dBin (rgP .tup) da db) := pe_imp (pe_tupRg hc hg hm (prg_2 hg' hm' ha hb na nb hp) ns) fun σ H Q ⟨F, ρ, hs, z, hs', g, e, k⟩ => by
  obtain ⟨x, h1, y, e1, e2, e3⟩ := dBin_some e
  refine ⟨F, ρ, hs, x, h1, g, e1, fun v F1 H1 s1 g1 r1 => ⟨F1, ρ, h1, y, hs', g1, e2, fun w F2 H2 s2 g2 r2 => ?_⟩⟩
  cases x <;> cases y <;> try (cases e3; done)
  rename_i i j
  have e3 : (if -(2 ^ 62) ≤ i ∧ i < 2 ^ 62 ∧ -(2 ^ 62) ≤ j ∧ j < 2 ^ 62 ∧ (j - i).toNat ≤ 2 ^ 24 then some (PV.tup (rngL i (j - i).toNat)) else none) = some z := e3
  split at e3
  · rename_i hz
    cases e3
    have q1 := (r1.step s2).bw.int; have q2 := r2.bw.int
    subst q1 q2
    refine ⟨i, j, rfl, rfl, hz, fun q hq => ?_⟩
    have s3 : Step none F2 H2 (upd F2 q (.tup (rgV i j))) (upd H2 q (.tup (rgV i j))) := Step.newF g2.sub hq
    exact k _ _ _ (s1.trans (s2.trans (s3.wide _))) (g2.pure s3) (.tup upd_same (rg_rep i j))
  · cases e3
end

/-! ### methods that only read -/
def dMth (op : PV → List PV → Option PV) (o : DE) (a : DA) : DE := fun ρ hs => match o ρ hs with
  | none => none
  | some (x, h1) => match a ρ h1 with
    | none => none
    | some (xs, h2) => match op x xs with
      | none => none
      | some z => some (z, h2)
def MtOk (K : PySem.W.Frag) (hd : Option Addr) (md : Md) (op : PV → List PV → Option PV) (r : V → List V → Hp → VK → Prop) : Prop :=
  ∀ (F H : Hp) (v : V) (vs : List V) (p : PV) (ps : List PV) (z : PV) (Q : VK), Ctx hd F H → RpB K hd F H v p → RpLM .bw K hd H F H vs ps → op p ps = some z →
    (∀ v' F' H', Step none F H F' H' → RpM md K hd H F' H' v' z → Q v' H') → r v vs H Q
section
variable {X : Cx} {c : Fc} {md m1 : Md} {e ob : Expr} {es : List Expr} {d : DE} {ds : DA} {pos apos cpos : Pos} {name : Str} {id T : String} {r : V → List V → Hp → VK → Prop} {op : PV → List PV → Option PV}
theorem p_mth (pa : PlainAttrs T) (slot : Slot T name id) (hty : typeOf (.builtin id) = pure (.type "method_descriptor")) (hm : MtR X id r) (ok : MtOk c.K c.hd md op r)
    (ty : ∀ (F H : Hp) (v : V) (p : PV) (ps : List PV) (z : PV), Ctx c.hd F H → RpB c.K c.hd F H v p → op p ps = some z → tyV c.K T v H) (ho : PEp X c m1 ob d) (ha : PAp X c .bw (e :: es) ds)
    (hbase : attributeBase ob name X.env (eval ob X.env) = eval ob X.env := by rfl)
    (hfew : ((backTo cpos (starEach (e :: es) X.env)).all (fun x => !x.1) && (backToKw cpos (keywordEach [] X.env)).all (fun x => x.1.isSome)
      && decide ((e :: es).length + ([] : List Keyword).length + (if ([] : List Keyword).isEmpty then 0 else 1) < 30)) = true := by rfl)
    (hline : (apos.endLine == cpos.line) = true := by rfl) (hst : starEach (e :: es) X.env = (false, eval e X.env) :: starEach es X.env := by rfl) (hplain : (backTo cpos (starEach es X.env)).any (·.1) = false := by rfl) (hK : X.K = c.K := by rfl) :
    PEp X c md (.Call (.Attribute ob name apos) (e :: es) [] cpos) (dMth op d ds) := pe_imp (pe_bm pa slot hty hm ho ha hbase hfew hline hst hplain) fun σ H Q ⟨F, ρ, hs, z, hs', g, e, k⟩ => by
  unfold dMth at e
  split at e
  · cases e
  rename_i x h1 e1
  split at e
  · cases e
  rename_i xs h2 e2
  split at e
  · cases e
  rename_i z' e3
  cases e
  refine ⟨F, ρ, hs, x, h1, g, e1, fun v F1 H1 s1 g1 r1 => ⟨hK ▸ ty F1 H1 v x xs z g1.ctx r1.bw e3, F1, ρ, h1, xs, hs', g1, e2, fun vs F2 H2 s2 g2 r2 => ?_⟩⟩
  refine ok F2 H2 v vs x xs z Q g2.ctx (r1.step s2).bw (RpLM.bw r2) e3 fun v' F' H' s3 r3 => ?_
  have s12 := s1.trans s2
  exact k v' F' H' (s12.trans (s3.wide _)) (g2.pure s3) (r3.he fun b => s12.free)
end
section
variable {K : PySem.W.Frag} {hd : Option Addr} {F H : Hp} {v : V}
/-- text.count(sign) -/
def cntP : PV → List PV → Option PV
  | .str x, [.str [n]] => some (.int (x.count n : Nat))
  | _, _ => none
theorem cnt_eq (c : Nat) : ∀ l : List Nat, cnt c l = (l.count c : Nat)
  | [] => rfl
  | n :: l => by
    rw [cnt_cons, cnt_eq c l, List.count_cons]
    by_cases h : n = c
    · subst h; simp; omega
    · simp [h]
theorem one_sign {a : Str} {n : Nat} (h : a.cps.toList = [n]) : a = ⟨#[n]⟩ := by
  obtain ⟨l⟩ := a
  have h2 : l = #[n] := by simpa using congrArg List.toArray h
  rw [h2]
theorem cnt_ok : MtOk K hd .fz cntP (fun x xs H Q => ∃ a b, x = .str a ∧ xs = [.str b] ∧ Q (.int (Txt.count a b)) H) := fun F H v vs p ps z Q cx rp rl e k => by
  unfold cntP at e
  split at e
  · rename_i x n
    cases e
    obtain ⟨a, rfl, rfl⟩ := rp.str
    obtain ⟨w, rfl, rw⟩ := rl.inv1
    obtain ⟨b, rfl, hb⟩ := RpB.str rw
    have := one_sign hb
    subst this
    refine ⟨a, _, rfl, rfl, ?_⟩
    rw [count_cnt, cnt_eq]
    exact fin cx k (.int _)
  · cases e
/-! text.index(sign) -/
theorem occ_done (s sub : Str) (hi : Nat) : ∀ (l : List Nat) (st : Array Nat × Nat), 1 ≤ st.fst.size → (forIn l st (StrLaws.occBody s sub hi 1)).run.fst = st.fst
  | [], st, _ => rfl
  | a :: l, st, h => by
    rw [List.forIn_cons]
    unfold StrLaws.occBody
    have hn : ¬ (((st.fst.size < 1 ∧ st.snd ≤ a) ∧ a + sub.length ≤ hi) ∧ Builtin.Str.subAt s sub a = true) := fun z => by omega
    rw [if_neg hn]
    exact occ_done s sub hi l _ h
def fixI (c : Nat) : List Nat → Option Nat
  | [] => none
  | d :: r => if d = c then some 0 else (fixI c r).map (· + 1)
theorem occ_first (x : Str) (c : Nat) : ∀ (n k free : Nat), free ≤ k → x.cps.toList.length ≤ k + n →
    (forIn (List.range' k n) ((#[] : Array Nat), free) (StrLaws.occBody x ⟨#[c]⟩ x.length 1)).run.fst.toList = (match fixI c (x.cps.toList.drop k) with | some j => [k + j] | none => [])
  | 0, k, free, hf, hl => by
    rw [List.drop_eq_nil_of_le (by omega)]
    rfl
  | n + 1, k, free, hf, hl => by
    rw [List.range'_succ, List.forIn_cons]
    unfold StrLaws.occBody
    by_cases hc : x.cps.toList[k]? = some c
    · have h2 := (StrLaws.subAt_one x c k).mpr hc
      rw [if_pos ⟨⟨⟨by simp, hf⟩, h2.1⟩, h2.2⟩]
      obtain ⟨q1, q2⟩ := List.getElem?_eq_some_iff.mp hc
      rw [List.drop_eq_getElem_cons q1, q2]
      unfold fixI
      rw [if_pos rfl]
      show (forIn (List.range' (k + 1) n) (#[].push k, k + (⟨#[c]⟩ : Str).length) (StrLaws.occBody x ⟨#[c]⟩ x.length 1)).run.fst.toList = _
      rw [occ_done _ _ _ _ _ (by simp)]
      simp
    · have hn : ¬ (((((#[] : Array Nat), free).fst.size < 1 ∧ ((#[] : Array Nat), free).snd ≤ k) ∧ k + (⟨#[c]⟩ : Str).length ≤ x.length) ∧ Builtin.Str.subAt x ⟨#[c]⟩ k = true) := fun z => hc ((StrLaws.subAt_one x c k).mp ⟨z.1.2, z.2⟩)
      rw [if_neg hn]
      have ih := occ_first x c n (k + 1) free (by omega) (by omega)
      show (forIn (List.range' (k + 1) n) ((#[] : Array Nat), free) (StrLaws.occBody x ⟨#[c]⟩ x.length 1)).run.fst.toList = _
      rw [ih]
      by_cases hk : k < x.cps.toList.length
      · rw [List.drop_eq_getElem_cons hk]
        conv => rhs; unfold fixI
        have ne : ¬ x.cps.toList[k] = c := fun z => hc (by rw [List.getElem?_eq_getElem hk, z])
        rw [if_neg ne]
        cases fixI c (x.cps.toList.drop (k + 1)) with
        | none => rfl
        | some j => simp; omega
      · rw [List.drop_eq_nil_of_le (by omega), List.drop_eq_nil_of_le (by omega)]
        rfl
def sixP : PV → List PV → Option PV
  | .str x, [.str [c]] => (match fixI c x with
    | some i => some (.int (i : Nat))
    | none => none)
  | _, _ => none
theorem six_ok : MtOk K hd .fz sixP (fun x xs H Q => ∃ a b i rest, x = .str a ∧ xs = [.str b] ∧ Builtin.Str.occurrences a b 0 a.length 1 = i :: rest ∧ Q (.int (i : Nat)) H) := fun F H v vs p ps z Q cx rp rl e k => by
  unfold sixP at e
  split at e
  · rename_i x c
    split at e
    · rename_i i hi
      cases e
      obtain ⟨a, rfl, rfl⟩ := rp.str
      obtain ⟨w, rfl, rw⟩ := rl.inv1
      obtain ⟨b, rfl, hb⟩ := RpB.str rw
      have := one_sign hb
      subst this
      have q := occ_first a c (a.length + 1) 0 0 (Nat.le_refl _) (by simp [Str.length])
      rw [List.drop_zero, hi] at q
      refine ⟨a, _, i, [], rfl, rfl, ?_, fin cx k (.int _)⟩
      rw [StrLaws.occ_eq]
      simpa using q
    · cases e
  · cases e
theorem str_ty {op : PV → List PV → Option PV} (h : ∀ p ps z, op p ps = some z → ∃ x, p = .str x) : ∀ (F H : Hp) (v : V) (p : PV) (ps : List PV) (z : PV), Ctx hd F H → RpB K hd F H v p → op p ps = some z → tyV K "str" v H := fun F H v p ps z cx rp e => by
  obtain ⟨x, rfl⟩ := h p ps z e
  obtain ⟨a, rfl, _⟩ := rp.str
  rfl
theorem cntP_s : ∀ p ps z, cntP p ps = some z → ∃ x, p = .str x := fun p ps z e => by
  unfold cntP at e
  split at e
  · exact ⟨_, rfl⟩
  · cases e
theorem sixP_s : ∀ p ps z, sixP p ps = some z → ∃ x, p = .str x := fun p ps z e => by
  unfold sixP at e
  split at e
  · exact ⟨_, rfl⟩
  · cases e
/-- list.index(x) -/
def lixP : PV → List PV → Option PV
  | .lst xs, [q] => if okN 60 (.lst xs) && okN 60 q then (match xs.findIdx? fun z => veq z q with
    | some i => some (.int (i : Nat))
    | none => none) else none
  | _, _ => none
theorem lix_ok : MtOk K hd .fz lixP (rIndexD K) := fun F H v vs p ps z Q cx rp rl e k => by
  unfold lixP at e
  split at e
  · rename_i xs q
    split at e
    · rename_i h
      split at e
      · rename_i i hi
        cases e
        rw [Bool.and_eq_true] at h
        obtain ⟨a, ws, rfl, ha, la⟩ := RpB.lst cx.sub rp
        obtain ⟨w, rfl, rw⟩ := rl.inv1
        obtain ⟨hlt, h2, h3⟩ := List.findIdx?_eq_some_iff_getElem.mp hi
        have hok : okNs 59 xs = true := by simpa [okN] using h.1
        have each : ∀ (l : List PV) (n : Nat), okNs n l = true → ∀ (j : Nat) (z' : PyData), (toDs l)[j]? = some z' → ∃ p', l[j]? = some p' ∧ z' = toD p' ∧ okN n p' = true := by
          intro l n
          induction l with
          | nil => intro _ j z' hz; simp [toDs] at hz
          | cons x l ih =>
            intro ho j z' hz
            simp only [okNs, Bool.and_eq_true] at ho
            cases j with
            | zero => simp [toDs] at hz; exact ⟨x, rfl, hz.symm, ho.1⟩
            | succ j =>
              simp only [toDs, List.getElem?_cons_succ] at hz
              obtain ⟨p', q1, q2⟩ := ih ho.2 j z' hz
              exact ⟨p', by simpa using q1, q2⟩
        have back : ∀ (l : List PV) (j : Nat) (p' : PV), l[j]? = some p' → (toDs l)[j]? = some (toD p') := by
          intro l
          induction l with
          | nil => intro j p' hp; simp at hp
          | cons x l ih =>
            intro j p' hp
            cases j with
            | zero => simp at hp; subst hp; rfl
            | succ j => simp only [toDs, List.getElem?_cons_succ] at hp ⊢; exact ih j p' hp
        have dl := RpB.dp cx rp h.1
        refine ⟨a, w, toD q, toDs xs, i, toD xs[i], rfl, rfl, dl, RpB.dp cx rw h.2, ok_shaped h.1, ok_shaped h.2, back xs i _ (by simp [hlt]), ?_, fun m z' hm hz => ?_, fin cx k (.int _)⟩
        · obtain ⟨p', q1, q2, q3⟩ := each xs 59 hok i _ (back xs i xs[i] (by simp [hlt]))
          rw [show xs[i]? = some xs[i] by simp [hlt]] at q1
          cases q1
          rw [veq_eqv _ q 59 60 q3 h.2]
          exact h2
        · obtain ⟨p', q1, rfl, q3⟩ := each xs 59 hok m _ hz
          obtain ⟨hml, rfl⟩ := List.getElem?_eq_some_iff.mp q1
          rw [veq_eqv _ q 59 60 q3 h.2]
          have := h3 m hm
          simpa using this
      · cases e
    · cases e
  · cases e
theorem lst_ty {op : PV → List PV → Option PV} (h : ∀ p ps z, op p ps = some z → ∃ x, p = .lst x) : ∀ (F H : Hp) (v : V) (p : PV) (ps : List PV) (z : PV), Ctx hd F H → RpB K hd F H v p → op p ps = some z → tyV K "list" v H := fun F H v p ps z cx rp e => by
  obtain ⟨x, rfl⟩ := h p ps z e
  obtain ⟨a, vs, rfl, ha, _⟩ := RpB.lst cx.sub rp
  exact .inl ⟨rfl, vs, SqL.of ha⟩
theorem lixP_l : ∀ p ps z, lixP p ps = some z → ∃ x, p = .lst x := fun p ps z e => by
  unfold lixP at e
  split at e
  · exact ⟨_, rfl⟩
  · cases e
theorem inP_ok : MuOk K hd .fz inP (fun x vs H Q => ∃ (l : Addr) (xs : List V) (i : Int) (y : V), x = .ref l ∧ vs = [.int i, y] ∧ H l = some (.lst xs) ∧ xs.length < sizeLine ∧ 0 ≤ i ∧ i < 2 ^ 63 ∧ Q .non (upd H l (.lst (xs.take i.toNat ++ [y] ++ xs.drop i.toNat)))) := fun F H a o p p' vs ps Q cx ho hf r rl e k => by
  unfold inP at e
  split at e
  · rename_i xs i y
    split at e
    · rename_i hz
      cases e
      obtain ⟨ws, rfl, hr⟩ := r.lst_inv
      obtain ⟨v, w, rfl, rv, rw⟩ := rl.inv2
      have := (RpM.bw rv).int
      subst this
      exact ⟨a, ws, i, w, rfl, rfl, ho, by rw [hr.length]; exact hz.1, hz.2.1, hz.2.2, k _ _ (show ObRep K hd F (.lst _) (.lst _) from ((hr.take _).append (.cons rw .nil)).append (hr.drop _))⟩
    · cases e
  · cases e
theorem inP_l : ∀ p ps p', inP p ps = some p' → ∃ xs, p = .lst xs := fun p ps p' e => by
  unfold inP at e
  split at e
  · exact ⟨_, rfl⟩
  · cases e
end
end PL

set_option Elab.async false
set_option linter.all false
set_option maxRecDepth 100000
set_option maxHeartbeats 1000000
/-! PL, part i: stores, the hand, parallel stores, defs. -/
namespace PL
open PySem PySem.Spec PyProof.Rows L2

/-! ### xs[i] = e, xs[i] += e, of a slot's own list -/
def setAt (p : PV) (k : PV) (y : PV) : Option PV := match p, k with
  | .lst xs, .int i => (match ixN xs.length i with
    | some j => some (.lst (xs.set j y))
    | none => none)
  | _, _ => none
def dsIx (i : Nat) (di de : DE) : DS := fun ρ hs => match de ρ hs with
  | none => none
  | some (y, h1) => match di ρ h1 with
    | none => none
    | some (k, h2) => match ρ[i]? with
      | some (some (.own p)) => (match setAt p k y with
        | none => none
        | some p' => some (.nx (ρ.set i (some (.own p'))) h2))
      | _ => none
/-- op: the operator -/
def dsAugIx (op : PV → PV → Option PV) (i : Nat) (di de : DE) : DS := fun ρ hs => match di ρ hs with
  | none => none
  | some (k, h1) => match ρ[i]? with
    | some (some (.own p)) => (match ixP p k with
      | none => none
      | some x => match de ρ h1 with
        | none => none
        | some (y, h2) => match op x y with
          | none => none
          | some z => match setAt p k z with
            | none => none
            | some p' => some (.nx (ρ.set i (some (.own p'))) h2))
    | _ => none
theorem setAt_some {p k y p' : PV} (h : setAt p k y = some p') : ∃ xs i j, p = .lst xs ∧ k = .int i ∧ ixN xs.length i = some j ∧ p' = .lst (xs.set j y) := by
  unfold setAt at h
  split at h
  · rename_i xs i
    split at h
    · rename_i j hj
      cases h
      exact ⟨xs, i, j, rfl, rfl, hj, rfl⟩
    · cases h
  · cases h
section
variable {X : Cx} {c : Fc} {rm m1 m2 : Md} {e ob ix : Expr} {d di de : DE} {pos tpos : Pos}
theorem s_ix {i : Nat} (ho : PE X ob (tVar i)) (hi : PEp X c m1 ix di) (he : PEp X c .fz e de)
    (ha : ∀ v, assign (.Subscript ob ix tpos) X.env v = (do
      let ov ← holding [v] (eval ob X.env)
      let iv ← holding [v, ov] (eval ix X.env)
      standAt tpos
      holding [v, ov, iv] (setItem ov iv v)
      release [v, ov, iv] []) := by intro _; rfl)
    (hs : swapsWithSole [.Subscript ob ix tpos] e pos.line X.env = pure false := by rfl) (hw : swappedStores [.Subscript ob ix tpos] e X.env = pure none := by rfl)
    (h1 : (assignEach [.Subscript ob ix tpos] X.env).map (·.2) = [assign (.Subscript ob ix tpos) X.env] := by rfl) : PSp X c rm (.Assign [.Subscript ob ix tpos] e pos) (dsIx i di de) := ps_of (ps_asg he (pg_sub ho hi set_list ha) hs hw h1) fun D σ H F ρ hs o g e q => by
  unfold dsIx at e
  split at e
  · cases e
  rename_i y h1 e1
  split at e
  · cases e
  rename_i k h2 e2
  split at e
  case h_2 => cases e
  rename_i p hp
  split at e
  · cases e
  rename_i p' e3
  cases e
  obtain ⟨xs, j, n, rfl, rfl, hj, rfl⟩ := setAt_some e3
  obtain ⟨v, w1, a, o, rfl, w2, w3, w4, w5, w6⟩ := g.slot i _ hp
  obtain ⟨vs', rfl, w7⟩ := w6.lst_inv
  refine ⟨F, ρ, hs, y, h1, g, e1, fun v F1 H1 s1 g1 r1 => ⟨_, w1, F1, ρ, h1, _, h2, g1, e2, fun w F2 H2 s2 g2 r2 => ?_⟩⟩
  have s12 := s1.trans s2
  have H2a : H2 a = some (.lst vs') := s12.ext a _ w2 w5
  have := r2.bw.int
  subst this
  refine ⟨a, vs', j, n, rfl, rfl, H2a, by rw [w7.length]; exact hj, ?_⟩
  exact q σ F2 _ s12.mono (g2.chg hp w1 H2a (show ObRep c.K c.hd F2 (.lst _) (.lst _) from (w7.mono s12.mono).set n (r1.step s2)))
theorem get_list : PGet X (rIxL X.K) := by
  intro pins s σ H o i ov iv Q I ro ri h
  obtain ⟨p, xs, k, z, rfl, rfl, hq, he, q⟩ := h
  cases ro
  obtain ⟨t, rfl⟩ := ri
  obtain ⟨its, r, pl, hz⟩ := I.list hq
  obtain ⟨j, h1, h2, h3, h4, h5⟩ := atI_get he
  obtain ⟨w, ew, rw'⟩ := r.get h2
  have hl := r.length
  have hn := line63
  have fin : EP X pins σ Q w s := ⟨z, H, I, rw', q⟩
  by_cases h0 : 0 ≤ k
  · have hj : k.toNat = j := by
      rw [seqIndex_of h0 h5] at h1
      exact Option.some.inj h1
    exact wpAny_getItem_list pl.isList h0 (by omega) (by rw [hj]; simpa using ew) fin
  · have hj : (k + (its.toArray.size : Int)).toNat = j := by
      rw [seqIndex_neg (by omega) h4] at h1
      rw [List.size_toArray, ← hl]
      exact Option.some.inj h1
    exact wpAny_getItem_list_neg pl.isList (by omega) (by rw [List.size_toArray] <;> omega) (by omega) (by rw [hj]; simpa using ew) fin
/-- ints alone -/
theorem s_augIx {f : Int → Int → Int} {i : Nat} {o : Operator} {op : PV → PV → Option PV} (hop : ∀ x y z, op x y = some z → ∃ a b, x = .int a ∧ y = .int b ∧ z = .int (f a b)) (hp : PIp X o (ipI f)) (ho : PE X ob (tVar i)) (hi : PEp X c m1 ix di) (he : PEp X c m2 e de)
    (ha : ∀ ov iv new, augStore ix ov iv new = (do holding [new, ov, iv] (setItem ov iv new); release [new, ov, iv] []; pure .next) := by intros; rfl) (hK : X.K = c.K := by rfl) : PSp X c rm (.AugAssign (.Subscript ob ix tpos) o e pos) (dsAugIx op i di de) := ps_of (ps_augS ho hi get_list he hp set_list ha) fun D σ H F ρ hs o g e q => by
  unfold dsAugIx at e
  split at e
  · cases e
  rename_i k h1 e1
  split at e
  case h_2 => cases e
  rename_i p hp
  split at e
  · cases e
  rename_i x e2
  split at e
  · cases e
  rename_i y h2 e3
  split at e
  · cases e
  rename_i z e4
  split at e
  · cases e
  rename_i p' e5
  cases e
  obtain ⟨xs, j, n, rfl, rfl, hj, rfl⟩ := setAt_some e5
  obtain ⟨a1, b1, rfl, rfl, rfl⟩ := hop _ _ _ e4
  obtain ⟨v, w1, a, o, rfl, w2, w3, w4, w5, w6⟩ := g.slot i _ hp
  obtain ⟨vs', rfl, w7⟩ := w6.lst_inv
  refine ⟨_, w1, F, ρ, hs, _, h1, g, e1, fun v F1 H1 s1 g1 r1 => ?_⟩
  have H1a : H1 a = some (.lst vs') := s1.ext a _ w2 w5
  have := r1.bw.int
  subst this
  obtain ⟨u, u1, u2⟩ := atI_rep (w7.mono s1.mono) (show atI xs j = some (PV.int a1) from e2)
  refine ⟨a, vs', j, u, rfl, rfl, SqL.of H1a, u1, F1, ρ, h1, _, h2, g1, e3, fun w F2 H2 s2 g2 r2 => ?_⟩
  cases u2
  have := r2.bw.int
  subst this
  have s12 := s1.trans s2
  have H2a : H2 a = some (.lst vs') := s12.ext a _ w2 w5
  refine ⟨a1, b1, rfl, rfl, a, vs', j, n, rfl, rfl, H2a, by rw [w7.length]; exact hj, ?_⟩
  exact q σ F2 _ s12.mono (g2.chg hp w1 H2a (show ObRep c.K c.hd F2 (.lst _) (.lst _) from (w7.mono s12.mono).set n (.int _)))
theorem addI_b : ∀ x y z, addP x y = some z → (∃ a b, x = .int a ∧ y = .int b ∧ z = .int (a + b)) ∨ ∀ a, x ≠ .int a := fun x y z e => by
  cases x <;> cases y <;> first | (cases e; done) | (cases e; exact .inl ⟨_, _, rfl, rfl, rfl⟩) | exact .inr fun a h => nomatch h
def addI : PV → PV → Option PV
  | .int i, .int j => some (.int (i + j))
  | _, _ => none
theorem addI_o : ∀ x y z, addI x y = some z → ∃ a b, x = .int a ∧ y = .int b ∧ z = .int (a + b) := fun x y z e => by
  cases x <;> cases y <;> first | (cases e; done) | (cases e; exact ⟨_, _, rfl, rfl, rfl⟩)
theorem subP_o : ∀ x y z, subP x y = some z → ∃ a b, x = .int a ∧ y = .int b ∧ z = .int (a - b) := fun x y z e => by
  cases x <;> cases y <;> first | (cases e; done) | (cases e; exact ⟨_, _, rfl, rfl, rfl⟩)
/-- name += e -/
def dsAug (op : PV → PV → Option PV) (i : Nat) (d : DE) : DS := fun ρ hs => match ρ[i]? with
  | some (some (.val x)) => (match d ρ hs with
    | none => none
    | some (y, h1) => match op x y with
      | none => none
      | some z => some (.nx (ρ.set i (some (.val z))) h1))
  | _ => none
theorem s_aug {f : Int → Int → Int} {i : Nat} {x : Str} {o : Operator} {op : PV → PV → Option PV} {pos' : Pos} (hop : ∀ x y z, op x y = some z → ∃ a b, x = .int a ∧ y = .int b ∧ z = .int (f a b)) (hN : X.N.Nodup) (hi : X.N[i]? = some x) (hx : Loc X.env.scope x) (he : PEp X c m1 e d) (ho : PIp X o (ipI f)) (hf : X.fn x = true ∨ X.env.scope.names.lookup x = some .local := by first | exact .inl rfl | exact .inr rfl | assumption) :
    PSp X c rm (.AugAssign (.Name x pos') o e pos) (dsAug op i d) := ps_of (ps_aug hN hi hx he ho hf) fun D σ H F ρ hs o g e q => by
  unfold dsAug at e
  split at e
  case h_2 => cases e
  rename_i x hx
  split at e
  · cases e
  rename_i y h1 e1
  split at e
  · cases e
  rename_i z e2
  cases e
  obtain ⟨a1, b1, rfl, rfl, rfl⟩ := hop _ _ _ e2
  obtain ⟨v, w1, w2⟩ := g.slot i _ hx
  cases w2
  refine ⟨_, w1, F, ρ, hs, _, h1, g, e1, fun w F1 H1 s1 g1 r1 => ?_⟩
  have := r1.bw.int
  subst this
  exact ⟨a1, b1, rfl, rfl, q _ F1 H1 s1.mono (g1.val i (.int _))⟩

/-! ### the hand -/
def dsH (j i : Nat) (d : DE) : DS := fun ρ hs => match d ρ hs with
  | none => none
  | some (y, h1) => match ρ[j]? with
    | some (some (.val .hand)) => if i < h1.length then some (.nx ρ (h1.set i y)) else none
    | _ => none
theorem G.hput {F H : Hp} {σ : L2.St} {ρ : Rho} {hs hs' : HS} {h : Addr} {vs vs' : List V} (g : G c F H σ ρ hs) (hh : c.hd = some h) (hv : H h = some (.lst vs)) (r : RpL c.K c.hd F vs' hs') : G c F (L2.upd H h (.lst vs')) σ ρ hs' := by
  have cx := g.ctx
  have hF := (cx.hdn h hh).2
  refine ⟨⟨fun b u e ne => ?_, fun b e n => ?_, g.st.mono, g.st.sub.uR hF, g.st.old⟩, g.len, fun i s e => ?_, g.sep, fun b e => ?_⟩
  · rw [upd_ne (fun z => ne (by rw [z, hh]))]; exact g.st.ext b u e ne
  · by_cases q : b = h
    · subst q; rw [upd_same]; exact fun z => nomatch z
    · rw [upd_ne q]; exact g.st.hdk b e n
  · obtain ⟨v, h1, h2⟩ := g.slot i s e
    refine ⟨v, h1, ?_⟩
    cases s with
    | val p => exact h2
    | own p =>
      obtain ⟨a, u, rfl, q1, q2, q3, q4, q5⟩ := h2
      exact ⟨a, u, rfl, by rw [upd_ne (fun z => q4 (by rw [z, hh]))]; exact q1, q2, q3, q4, q5⟩
  · have e' : b = h := Option.some.inj (e.symm.trans hh)
    subst e'
    exact ⟨vs', upd_same, hF, r⟩
theorem s_h {j : Nat} (i : Nat) {cst : Const} {kk} {ip : Pos} (hcs : cst = .int (i : Int)) (ho : PE X ob (tVar j)) (he : PEp X c .fz e de)
    (ha : ∀ v, assign (.Subscript ob (.Constant cst kk ip) tpos) X.env v = (do
      let ov ← holding [v] (eval ob X.env)
      let iv ← holding [v, ov] (eval (.Constant cst kk ip) X.env)
      standAt tpos
      holding [v, ov, iv] (setItem ov iv v)
      release [v, ov, iv] []) := by intro _; rfl)
    (hs : swapsWithSole [.Subscript ob (.Constant cst kk ip) tpos] e pos.line X.env = pure false := by rfl) (hw : swappedStores [.Subscript ob (.Constant cst kk ip) tpos] e X.env = pure none := by rfl)
    (h1 : (assignEach [.Subscript ob (.Constant cst kk ip) tpos] X.env).map (·.2) = [assign (.Subscript ob (.Constant cst kk ip) tpos) X.env] := by rfl) : PSp X c rm (.Assign [.Subscript ob (.Constant cst kk ip) tpos] e pos) (dsH j i de) := by
  subst hcs
  exact ps_of (ps_asg he (pg_sub ho pe_int set_list ha) hs hw h1) fun D σ H F ρ hs o g e q => by
    unfold dsH at e
    split at e
    · cases e
    rename_i y h1 e1
    split at e
    case h_2 => cases e
    rename_i hp
    split at e
    case isFalse => cases e
    rename_i hl
    cases e
    obtain ⟨v, w1, w2⟩ := g.slot j _ hp
    cases w2 with
    | @hand a hh =>
      refine ⟨F, ρ, hs, y, h1, g, e1, fun v F1 H1 s1 g1 r1 => ⟨_, w1, ?_⟩⟩
      obtain ⟨vs, q1, q2, q3⟩ := g1.hand a hh
      have hlen := q3.length
      have hix : ixN vs.length ((i : Nat) : Int) = some i := by
        unfold ixN
        rw [if_pos (by omega), if_pos (by omega)]
        simp
      exact ⟨a, vs, (i : Nat), i, rfl, rfl, q1, hix, q σ F1 _ s1.mono (g1.hput hh q1 (q3.set i r1))⟩

/-! ### a, b = x, y -/
def dsPar (mk1 mk2 : PV → SV) (i j : Nat) (da db : DE) : DS := fun ρ hs => match da ρ hs with
  | none => none
  | some (x, h1) => match db ρ h1 with
    | none => none
    | some (y, h2) => some (.nx ((ρ.set i (some (mk1 x))).set j (some (mk2 y))) h2)
def Md.sv : Md → PV → SV
  | .fr => .own
  | _ => .val
theorem G.putM {F H He Fe : Hp} {σ : L2.St} {ρ : Rho} {hs hse : HS} {v : V} {p : PV} {md : Md} (g : G c F H σ ρ hs) (i : Nat) (ge : G c Fe He σ ρ hse) (hm : md = .fz ∨ md = .fr) (r : RpM md c.K c.hd He F H v p) : G c F H (σ.set i (some v)) (ρ.set i (some (md.sv p))) hs := by
  rcases hm with rfl | rfl
  · exact g.val i r
  · exact g.own i ge r
/-- two results stand apart: the first slot is stored, then the second -/
theorem G.put2 {F H He Fe F1 H1 : Hp} {σ : L2.St} {ρ : Rho} {hs hse h1 : HS} {v w : V} {p q : PV} {m1 m2 : Md} (ge : G c Fe He σ ρ hse) (s1 : Step c.hd Fe He F1 H1) (g1 : G c F1 H1 σ ρ h1) (s2 : Step c.hd F1 H1 F H) (g : G c F H σ ρ hs) {i j : Nat} (hm1 : m1 = .fz ∨ m1 = .fr) (hm2 : m2 = .fz ∨ m2 = .fr)
    (r1 : RpM m1 c.K c.hd He F1 H1 v p) (r2 : RpM m2 c.K c.hd H1 F H w q) : G c F H ((σ.set i (some v)).set j (some w)) ((ρ.set i (some (m1.sv p))).set j (some (m2.sv q))) hs := by
  have g2 : G c F H (σ.set i (some v)) (ρ.set i (some (m1.sv p))) hs := g.putM i ge hm1 (r1.step s2)
  rcases hm2 with rfl | rfl
  · exact g2.val j r2
  · obtain ⟨a, o, rfl, h0, h3, h4, h5, h6⟩ := r2
    refine g2.put j (s := .own q) ⟨a, o, rfl, h3, h4, g1.st.free h0, h5, h6⟩ fun q' z k q'' e1 e2 => ?_
    by_cases hk : i = k
    · subst hk
      have hl : i < ρ.length := by
        by_cases hq : i < ρ.length
        · exact hq
        · rw [List.getElem?_eq_none (by rw [List.length_set]; omega)] at e1; cases e1
      rw [List.getElem?_set_self (by rw [g.len]; exact hl)] at e2
      cases e2
      rcases hm1 with rfl | rfl
      · rw [List.getElem?_set_self hl] at e1
        cases e1
      · obtain ⟨a', o', e', _, q1, _⟩ := r1
        cases e'
        rw [h0] at q1
        cases q1
    · rw [List.getElem?_set_ne hk] at e1 e2
      obtain ⟨w', w1, a', o', rfl, w2, _⟩ := g1.slot k _ e1
      rw [w1] at e2
      cases e2
      rw [h0] at w2
      cases w2
theorem par_pa {a b : Expr} (ha : PEp X c m1 a d) (hb : PEp X c m2 b de) (s1 : starEach [a, b] X.env = (false, eval a X.env) :: starEach [b] X.env) (s2 : starEach [b] X.env = (false, eval b X.env) :: starEach [] X.env) : PA X [a, b] (tCons (tP c m1 d) (tCons (tP c m2 de) tNil)) := pa_cons ha (pa_cons hb pa_nil s2) s1
/-- both plain local names -/
theorem s_par {i j : Nat} {x y : Str} {a b : Expr} {px py pt : Pos} {kt k2 pt2} (hm1 : m1 = .fz ∨ m1 = .fr) (hm2 : m2 = .fz ∨ m2 = .fr) (hc : X.calm = true) (hN : X.N.Nodup) (hi : X.N[i]? = some x) (hj : X.N[j]? = some y) (hij : i ≠ j)
    (hx : X.env.scope.names.lookup x = some .local) (hy : X.env.scope.names.lookup y = some .local) (ha : PEp X c m1 a d) (hb : PEp X c m2 b de)
    (hw : swappedStores [.Tuple [.Name x px, .Name y py] kt pt] (.Tuple [a, b] k2 pt2) X.env = pure (some [x, y]))
    (hs : swapsWithSole [.Tuple [.Name x px, .Name y py] kt pt] (.Tuple [a, b] k2 pt2) pos.line X.env = pure false := by rfl)
    (s1 : starEach [a, b] X.env = (false, eval a X.env) :: starEach [b] X.env := by rfl) (s2 : starEach [b] X.env = (false, eval b X.env) :: starEach [] X.env := by rfl) :
    PSp X c rm (.Assign [.Tuple [.Name x px, .Name y py] kt pt] (.Tuple [a, b] k2 pt2) pos) (dsPar m1.sv m2.sv i j d de) := ps_of (ps_par hc hN hi hj hij hx hy (par_pa ha hb s1 s2) hw hs) fun D σ H F ρ hs o g e q => by
  unfold dsPar at e
  split at e
  · cases e
  rename_i x h1 e1
  split at e
  · cases e
  rename_i y h2 e2
  cases e
  refine ⟨F, ρ, hs, x, h1, g, e1, fun v F1 H1 s1 g1 r1 => ⟨F1, ρ, h1, y, h2, g1, e2, fun w F2 H2 s2 g2 r2 => ⟨v, w, rfl, ?_⟩⟩⟩
  exact q _ F2 H2 (s1.mono.trans s2.mono) (G.put2 g s1 g1 s2 g2 hm1 hm2 r1 r2)
/-- .. where one of the names is a cell, or all is written -/
theorem s_parT {i j : Nat} {a b t1 t2 : Expr} {pt : Pos} {kt k2 pt2} (hm1 : m1 = .fz ∨ m1 = .fr) (hm2 : m2 = .fz ∨ m2 = .fr) (hc : X.calm = true) (g1 : PG X t1 (gName i)) (g2 : PG X t2 (gName j)) (ha : PEp X c m1 a d) (hb : PEp X c m2 b de)
    (hs : swapsWithSole [.Tuple [t1, t2] kt pt] (.Tuple [a, b] k2 pt2) pos.line X.env = pure false := by rfl) (hw : swappedStores [.Tuple [t1, t2] kt pt] (.Tuple [a, b] k2 pt2) X.env = pure none := by rfl)
    (h1 : (assignEach [.Tuple [t1, t2] kt pt] X.env).map (·.2) = [assign (.Tuple [t1, t2] kt pt) X.env] := by rfl)
    (q1 : (assignEach [t1, t2] X.env).map (·.2) = assign t1 X.env :: (assignEach [t2] X.env).map (·.2) := by rfl) (q2 : (assignEach [t2] X.env).map (·.2) = assign t2 X.env :: (assignEach [] X.env).map (·.2) := by rfl)
    (hn : (assignEach [t1, t2] X.env).length = 2 := by rfl) (hst : (assignEach [t1, t2] X.env).findIdx? (·.1) = none := by rfl)
    (s1 : starEach [a, b] X.env = (false, eval a X.env) :: starEach [b] X.env := by rfl) (s2 : starEach [b] X.env = (false, eval b X.env) :: starEach [] X.env := by rfl) :
    PSp X c rm (.Assign [.Tuple [t1, t2] kt pt] (.Tuple [a, b] k2 pt2) pos) (dsPar m1.sv m2.sv i j d de) := ps_of (ps_asg (pe_tup (par_pa ha hb s1 s2)) (pg_tup hc (pgs_cons g1 (pgs_cons g2 pgs_nil q2) q1) hn hst) hs hw h1) fun D σ H F ρ hs o g e q => by
  unfold dsPar at e
  split at e
  · cases e
  rename_i x h1 e1
  split at e
  · cases e
  rename_i y h2 e2
  cases e
  refine ⟨F, ρ, hs, x, h1, g, e1, fun v F1 H1 s1 g1 r1 => ⟨F1, ρ, h1, y, h2, g1, e2, fun w F2 H2 s2 g2 r2 => ⟨by show 2 ≤ sizeLine; decide, fun p hp => ?_⟩⟩⟩
  have s3 : Step c.hd F2 H2 F2 (upd H2 p (.tup [v, w])) := Step.new g2.sub hp
  have g3 : G c F2 (upd H2 p (.tup [v, w])) σ ρ h2 := g2.pure (Step.new g2.sub hp)
  refine ⟨p, [v, w], rfl, SqT.of upd_same, rfl, v, [w], rfl, w, [], rfl, rfl, ?_⟩
  exact q _ F2 _ (s1.mono.trans s2.mono) (G.put2 g s1 g1 (s2.trans s3) g3 hm1 hm2 r1 (r2.step s3))
end

/-! ### defs -/
/-- a def's denotation: n slots -/
def fnD (n : Nat) (b : DS) : List PV → HS → Option (PV × HS) := fun ps hs => match b (ps.map (fun p => some (.val p)) ++ List.replicate (n - ps.length) none) hs with
  | some (.ret p h) => some (p, h)
  | some (.nx _ h) => some (.non, h)
  | _ => none
section
variable {P : Program} {w : World} {K : PySem.W.Frag} {mg : Str → Option Value} {base : Heap}
theorem start_slot {hd : Option Addr} {F : Hp} {c : Fc} (hK : c.K = K) (hh : c.hd = hd) {vs : List V} {ps : List PV} (r : RpL K hd F vs ps) (N : List Str) (hl : vs.length ≤ N.length) : ∀ (i : Nat) (s : SV), (ps.map (fun p => some (SV.val p)) ++ List.replicate (N.length - ps.length) none)[i]? = some (some s) →
    ∃ v, (start N vs)[i]? = some (some v) ∧ (∃ p, s = .val p ∧ Rp K hd F v p) := by
  intro i s e
  have hlen := r.length
  by_cases hi : i < ps.length
  · rw [List.getElem?_append_left (by simpa using hi), List.getElem?_map] at e
    obtain ⟨p, e1, e2⟩ := Option.map_eq_some_iff.mp e
    cases e2
    obtain ⟨v, h1, h2⟩ := r.get e1
    refine ⟨v, ?_, p, rfl, h2⟩
    unfold L2.start
    rw [List.getElem?_append_left (by simp; omega), List.getElem?_map, h1]
    rfl
  · rw [List.getElem?_append_right (by simpa using hi)] at e
    have := List.getElem?_eq_some_iff.mp e
    obtain ⟨q1, q2⟩ := this
    rw [List.getElem_replicate] at q2
    cases q2
theorem fn_D {N ps : List Str} {k : Nat} {x qual : Str} {params : Arguments} {body : List Stmt} {scope : Scope} {f : Addr} {fd : FuncData} {md : Md} {b : DS} (F : FunD K x qual params body scope [] [] f fd) (S : FnScope N ps scope) (hN : ps.length ≤ N.length) (hm : ∀ K hd He F H, RpM md K hd He F H .non .non ∨ (∀ ρ hs ρ' hs', b ρ hs ≠ some (.nx ρ' hs')))
    (h : ∀ (cdv : Value) (A : Around) (outer : List Env) (s : Shared) (H : Hp) (E : XK) (F : Hp) (hd : Option Addr), Room k (A.deeper (envOfC qual scope s.heap.objs.size f cdv)) →
      PSsp (cxOf CX0 P w K mg base N qual scope f cdv A outer s H E).nox ⟨K, hd, F, H⟩ md body b) : FnOk P w K mg base CX0 (k + 1) f fd ps (spD K ps.length md (fnD N.length b)) := by
  refine F.ok S (fun vs H Q E h => h.1) (fun cdv A outer s H vs Q E hr hq => ?_)
  obtain ⟨hl, F0, hd, hs, qs, r, hs', cx, hh, rl, e, kk⟩ := hq
  refine ⟨_, (h cdv A outer s H E F0 hd hr).nox, ?_⟩
  have hlen := rl.length
  have g : G ⟨K, hd, F0, H⟩ F0 H (start N vs) (qs.map (fun p => some (SV.val p)) ++ List.replicate (N.length - qs.length) none) hs := by
    refine ⟨Step.refl cx.sub, ?_, fun i s e => ?_, fun i j p q a ne e1 => ?_, hh⟩
    · simp [L2.start]; omega
    · obtain ⟨v, h1, p, rfl, h2⟩ := start_slot (c := ⟨K, hd, F0, H⟩) rfl rfl rl N (by omega) i s e
      exact ⟨v, h1, h2⟩
    · obtain ⟨v, h1, p', e', h2⟩ := start_slot (c := ⟨K, hd, F0, H⟩) rfl rfl rl N (by omega) i _ e1
      cases e'
  unfold fnD at e
  split at e
  · rename_i p h1 e1
    cases e
    exact tPS_mk g e1 fun v F' H' st hd' rr => kk v F' H' st hd' rr
  · rename_i ρ1 h1 e1
    cases e
    refine tPS_mk g e1 fun σ' F' H' sb g' => ?_
    rcases hm K hd H F' H' with q | q
    · exact kk .non F' H' g'.st g'.hand q
    · exact absurd e1 (q _ _ _ _)
  · cases e
theorem md_fz {b : DS} : ∀ (K : PySem.W.Frag) (hd : Option Addr) (He F H : Hp), RpM .fz K hd He F H .non .non ∨ (∀ ρ hs ρ' hs', b ρ hs ≠ some (.nx ρ' hs')) := fun _ _ _ _ _ => .inl .non
end
end PL

set_option Elab.async false
set_option linter.all false
set_option maxRecDepth 100000
set_option maxHeartbeats 1000000
/-! PL, part j: zip and enumerate over lists, tuples, texts in any mix. -/
namespace PL
open PySem PySem.Spec PyProof.Rows L2

/-- what an iterator draws from: a tracked list, a tracked tuple, a text -/
inductive Sk where
  | l (a : Addr) | t (a : Addr) | s (x : Str)
def Sk.Has (H : Hp) : Sk → List V → Prop
  | .l a, vs => H a = some (.lst vs)
  | .t a, vs => H a = some (.tup vs)
  | .s x, vs => vs = x.cps.toList.map fun c => V.str ⟨#[c]⟩
def Sk.It (it : Addr) : Sk → Nat → Heap → Prop
  | .l a, i, h => h.IsListIter it a i
  | .t a, i, h => h.IsTupleIter it a i
  | .s x, i, h => ∃ t, h.IsStrIter it (strIterType x) x t i
def Sk.dep : Sk → List Addr
  | .l a => [a]
  | .t a => [a]
  | .s _ => []
def Sk.RelS : Sk → Value → Prop
  | .l a, u => u = .ref a
  | .t a, u => u = .ref a
  | .s x, u => ∃ t, u = .str x t
section
variable {k : Sk} {H : Hp} {vs ws : List V}
theorem Sk.Has.inj (h1 : k.Has H vs) (h2 : k.Has H ws) : vs = ws := by
  cases k with
  | l a => have h1 : H a = _ := h1; have h2 : H a = _ := h2; rw [h1] at h2; cases h2; rfl
  | t a => have h1 : H a = _ := h1; have h2 : H a = _ := h2; rw [h1] at h2; cases h2; rfl
  | s x => exact h1.trans h2.symm
theorem Sk.Has.dep (h : k.Has H vs) : ∀ a ∈ k.dep, H a ≠ none := by
  cases k with
  | l a => intro b hb; have : b = a := by simpa [Sk.dep] using hb
           subst this; have h : H b = _ := h; rw [h]; exact fun z => nomatch z
  | t a => intro b hb; have : b = a := by simpa [Sk.dep] using hb
           subst this; have h : H b = _ := h; rw [h]; exact fun z => nomatch z
  | s x => intro b hb; simp [Sk.dep] at hb
theorem Sk.It.obj {it : Addr} {i : Nat} {h : Heap} (st : k.It it i h) : ∃ o, h.get? it = some o ∧ ∀ v, o.data ≠ .cell v := by
  cases k with
  | l a => obtain ⟨o, e, _, d⟩ := st; exact ⟨o, e, fun v q => by rw [d] at q; cases q⟩
  | t a => obtain ⟨o, e, _, d⟩ := st; exact ⟨o, e, fun v q => by rw [d] at q; cases q⟩
  | s x => obtain ⟨t, o, e, _, d⟩ := st; exact ⟨o, e, fun v q => by rw [d] at q; cases q⟩
theorem Sk.It.keep {it : Addr} {i : Nat} {h h' : Heap} (st : k.It it i h) (hk : ∀ o, h.get? it = some o → h'.get? it = some o) : k.It it i h' := by
  cases k with
  | l a => exact Heap.IsListIter.at st hk
  | t a => exact Heap.IsTupleIter.at st hk
  | s x => obtain ⟨t, o, e, r⟩ := st; exact ⟨t, o, hk o e, r⟩
end
section
variable {X : Cx} {pins : List (Addr × Obj)} {σ : L2.St} {H : Hp} {s : Shared} {k : Sk} {vs : List V}
/-- drawing from it, where it stands -/
theorem Sk.draws (I : Inv X pins σ H s) (A : Around) (hh : A.handled = none) (it : Addr) (hit : H it = none) (i : Nat) (h : k.Has H vs) (st : k.It it i s.heap) :
    ∃ St : Nat → Heap → Prop, Draws X.prog X.w A it (it :: k.dep) vs.length (fun j u => ∃ x, vs[j]? = some x ∧ RelV x u) St ∧ St i s.heap ∧ ∀ j h', St j h' → k.It it j h' := by
  cases k with
  | l a =>
    have ha : H a = some (.lst vs) := h
    obtain ⟨its, rv, p, _⟩ := I.list (SqL.of ha)
    have hl := rv.length
    have D := Draws.list (prog := X.prog) (w := X.w) hh it a (ne_of_none ha hit) its.toArray
    refine ⟨_, ⟨D.live, D.frame, fun j s' Q E hj st' hQ => D.item j s' Q E (by simpa [← hl] using hj) st' fun x h' tk hx a1 a2 => ?_, fun s' Q E st' hE => ?_⟩, ⟨st, p.isList⟩, fun j h' st' => st'.1⟩
    · have hx : its.toArray[j]? = some x := hx
      have hx' : its[j]? = some x := by simpa using hx
      have hj' : j < vs.length := hj
      obtain ⟨u, hu, ru⟩ := rv.get (i := j) (x := vs[j]) (by simp [hj'])
      rw [hu] at hx'
      cases hx'
      exact hQ _ h' tk ⟨_, by simp [hj'], ru⟩ a1 a2
    · rw [hl] at st'
      exact D.done s' Q E (by simpa using st') hE
  | t a =>
    have ha : H a = some (.tup vs) := h
    obtain ⟨its, rv, p, _⟩ := I.tuple (SqT.of ha)
    have hl := rv.length
    have D := Draws.tuple (prog := X.prog) (w := X.w) hh it a (ne_of_none ha hit) its.toArray
    refine ⟨_, ⟨D.live, D.frame, fun j s' Q E hj st' hQ => D.item j s' Q E (by simpa [← hl] using hj) st' fun x h' tk hx a1 a2 => ?_, fun s' Q E st' hE => ?_⟩, ⟨st, p⟩, fun j h' st' => st'.1⟩
    · have hx : its.toArray[j]? = some x := hx
      have hx' : its[j]? = some x := by simpa using hx
      have hj' : j < vs.length := hj
      obtain ⟨u, hu, ru⟩ := rv.get (i := j) (x := vs[j]) (by simp [hj'])
      rw [hu] at hx'
      cases hx'
      exact hQ _ h' tk ⟨_, by simp [hj'], ru⟩ a1 a2
    · rw [hl] at st'
      exact D.done s' Q E (by simpa using st') hE
  | s x =>
    have hv : vs = x.cps.toList.map fun c => V.str ⟨#[c]⟩ := h
    subst hv
    obtain ⟨t, st⟩ := st
    have D := Draws.text (prog := X.prog) (w := X.w) hh it x t
    refine ⟨_, ⟨D.live, D.frame, fun j s' Q E hj st' hQ => D.item j s' Q E (by simpa using hj) st' fun v h' tk hx a1 a2 => ?_, fun s' Q E st' hE => ?_⟩, st, fun j h' st' => ⟨t, st'⟩⟩
    · obtain ⟨c, u, hc, rfl⟩ := hx
      have hc' : x.cps.toList[j]? = some c := by simpa using hc
      exact hQ _ h' tk ⟨.str ⟨#[c]⟩, by rw [List.getElem?_map, hc']; rfl, ⟨u, rfl⟩⟩ a1 a2
    · exact D.done s' Q E (by simpa using st') hE
end

/-- pairs of items, in new tuples -/
def ItzG (k1 k2 : Sk) : It :=
  ⟨fun i H => ∃ xs ys x y, k1.Has H xs ∧ k2.Has H ys ∧ xs[i]? = some x ∧ ys[i]? = some y,
    fun i H v H' => ∃ T x y, v = .ref T ∧ H T = none ∧ H' = upd H T (.tup [x, y]) ∧ (∀ xs, k1.Has H xs → xs[i]? = some x) ∧ ∀ ys, k2.Has H ys → ys[i]? = some y,
    fun i H => ∃ xs ys : List V, k1.Has H xs ∧ k2.Has H ys ∧ i = min xs.length ys.length⟩
structure Apart5 (z TI TO i1 i2 : Addr) : Prop where
  TIz : TI ≠ z
  TOz : TO ≠ z
  TITO : TI ≠ TO
  TIi1 : TI ≠ i1
  TIi2 : TI ≠ i2
  z1 : z ≠ i1
  z2 : z ≠ i2
  T1 : TO ≠ i1
  T2 : TO ≠ i2
  i12 : i1 ≠ i2
def tnZ (z TI TO i1 i2 : Addr) (k1 k2 : Sk) : Nat → Heap → Prop := fun i h => IsZip h z TI TO .none ∧ IsTupOf2 h TI (.ref i1) (.ref i2) ∧ (∃ x y, IsTupOf2 h TO x y) ∧ k1.It i1 i h ∧ k2.It i2 i h
theorem turn_zipG {P : Program} {w : World} {K : PySem.W.Frag} {elts : List Expr} {kk : Nat} {tpos : Pos} {z TI TO i1 i2 : Addr} {k1 k2 : Sk} (D : Apart5 z TI TO i1 i2) :
    Turn P w K (.Tuple elts kk tpos) (ItzG k1 k2) [z, TI, TO, i1, i2] z (tnZ z TI TO i1 i2 k1 k2) where
  mem := by simp
  obj := fun i h st c hc => by
    obtain ⟨hz, hTI, ⟨x, y, hTO⟩, h1, h2⟩ := st
    have e' : c = z ∨ c = TI ∨ c = TO ∨ c = i1 ∨ c = i2 := by simpa using hc
    rcases e' with q | q | q | q | q
    · rw [q]; exact ⟨_, hz, fun v q => nomatch q⟩
    · rw [q]; exact ⟨_, hTI, fun v q => nomatch q⟩
    · rw [q]; exact ⟨_, hTO, fun v q => nomatch q⟩
    · rw [q]; exact h1.obj
    · rw [q]; exact h2.obj
  keep := fun i h h' st k => by
    obtain ⟨hz, hTI, ⟨x, y, hTO⟩, h1, h2⟩ := st
    exact ⟨k z (by simp) _ hz, k TI (by simp) _ hTI, ⟨x, y, k TO (by simp) _ hTO⟩, h1.keep fun o q => k i1 (by simp) o q, h2.keep fun o q => k i2 (by simp) o q⟩
  item := by
    intro X hP hw hK hc i pins s σ H E I hf st hg
    subst hP hw hK
    obtain ⟨hz, hTI, hTO, h1, h2⟩ := st
    obtain ⟨xs, ys, x, y, hqx, hqy, hx, hy⟩ := hg
    have hA : X.A.in1.handled = none := I.ok.hd hc
    obtain ⟨St1, D1, s1, b1⟩ := Sk.draws I X.A.in1 hA i1 (hf i1 (by simp)).1 i hqx h1
    obtain ⟨St2, D2, s2, b2⟩ := Sk.draws I X.A.in1 hA i2 (hf i2 (by simp)).1 i hqy h2
    have nd : ∀ (k : Sk) (vs : List V), k.Has H vs → ∀ c ∈ [z, TI, TO, i1, i2], c ∉ k.dep := fun k vs hk c hcm hd => Sk.Has.dep hk c hd (hf c hcm).1
    have S : ZipSep2 z TI TO i1 i2 (i1 :: k1.dep) (i2 :: k2.dep) :=
      { TIz := D.TIz, TOz := D.TOz, TITO := D.TITO, TIi1 := D.TIi1, mem1 := by simp,
        zf1 := fun h => (List.mem_cons.mp h).elim D.z1 (nd k1 xs hqx z (by simp)), Tf1 := fun h => (List.mem_cons.mp h).elim D.T1 (nd k1 xs hqx TO (by simp)), TIi2 := D.TIi2, mem2 := by simp,
        zf2 := fun h => (List.mem_cons.mp h).elim D.z2 (nd k2 ys hqy z (by simp)), Tf2 := fun h => (List.mem_cons.mp h).elim D.T2 (nd k2 ys hqy TO (by simp)),
        sep1_2 := fun h => (List.mem_cons.mp h).elim D.i12 (nd k2 ys hqy i1 (by simp)), sep2_1 := fun h => (List.mem_cons.mp h).elim (fun e => D.i12 e.symm) (nd k1 xs hqx i2 (by simp)) }
    have W := GoesN.zip2 (elts := elts) (x1 := kk) (pos := tpos) S D1 D2
    have hi1 : i < xs.length := (List.getElem?_eq_some_iff.mp hx).1
    have hi2 : i < ys.length := (List.getElem?_eq_some_iff.mp hy).1
    refine W.goes i s (fun u s2 => ∃ x H', Inv X pins σ H' s2 ∧ RelV x u ∧ (ItzG k1 k2).yld i H x H' ∧ tnZ z TI TO i1 i2 k1 k2 (i + 1) s2.heap ∧ ∀ b ∈ [z, TI, TO, i1, i2], H' b = none) E (by omega) ⟨hz, hTI, hTO, s1, s2⟩ ?_
    rintro v h' tk ⟨T, u1, u2, rfl, hTn, ⟨x', e1, r1⟩, ⟨y', e2, r2⟩, hT⟩ ⟨z', TI', TO', s1', s2'⟩ hk htk
    rw [hx] at e1; cases e1
    rw [hy] at e2; cases e2
    have new : ObjOk X.prog X.w (upd H T (.tup [x, y])) h' T (.tup [x, y]) := ⟨by show 2 ≤ sizeLine; decide, [u1, u2], .cons r1 (.cons r2 .nil), hT⟩
    have I1 : Inv X pins σ (upd H T (.tup [x, y])) { s with heap := h', toks := tk } := I.turnedNew (ch := [z, TI, TO, i1, i2]) (fun c o hb q => hk c o (fun q' => hb (by
      have : c = z ∨ c = TO ∨ c = i1 ∨ c = i2 := by simpa using q'
      simp; rcases this with h | h | h | h <;> simp [h])) q) hf hTn new
    refine ⟨.ref T, _, I1, rfl, ⟨T, x, y, rfl, I.hok.fresh hTn, rfl, fun l hl => by rw [hl.inj hqx]; exact hx, fun l hl => by rw [hl.inj hqy]; exact hy⟩, ⟨z', TI', TO', b1 _ _ s1', b2 _ _ s2'⟩, fun c hcm => ?_⟩
    obtain ⟨o, eo, _⟩ : ∃ o, s.heap.get? c = some o ∧ True := by
      have e' : c = z ∨ c = TI ∨ c = TO ∨ c = i1 ∨ c = i2 := by simpa using hcm
      rcases e' with q | q | q | q | q
      · rw [q]; exact ⟨_, hz, trivial⟩
      · rw [q]; exact ⟨_, hTI, trivial⟩
      · rw [q]; obtain ⟨_, _, e⟩ := hTO; exact ⟨_, e, trivial⟩
      · rw [q]; obtain ⟨o, e, _⟩ := h1.obj; exact ⟨o, e, trivial⟩
      · rw [q]; obtain ⟨o, e, _⟩ := h2.obj; exact ⟨o, e, trivial⟩
    rw [upd_ne (Nat.ne_of_lt (Nat.lt_of_lt_of_le (Heap.lt_size eo) hTn))]
    exact (hf c hcm).1
  done := by
    intro X hP hw hK hc i pins s σ H E I hf st hg
    subst hP hw hK
    obtain ⟨hz, hTI, hTO, h1, h2⟩ := st
    obtain ⟨xs, ys, hqx, hqy, rfl⟩ := hg
    have hA : X.A.in1.handled = none := I.ok.hd hc
    obtain ⟨St1, D1, s1, b1⟩ := Sk.draws I X.A.in1 hA i1 (hf i1 (by simp)).1 _ hqx h1
    obtain ⟨St2, D2, s2, b2⟩ := Sk.draws I X.A.in1 hA i2 (hf i2 (by simp)).1 _ hqy h2
    have nd : ∀ (k : Sk) (vs : List V), k.Has H vs → ∀ c ∈ [z, TI, TO, i1, i2], c ∉ k.dep := fun k vs hk c hcm hd => Sk.Has.dep hk c hd (hf c hcm).1
    have S : ZipSep2 z TI TO i1 i2 (i1 :: k1.dep) (i2 :: k2.dep) :=
      { TIz := D.TIz, TOz := D.TOz, TITO := D.TITO, TIi1 := D.TIi1, mem1 := by simp,
        zf1 := fun h => (List.mem_cons.mp h).elim D.z1 (nd k1 xs hqx z (by simp)), Tf1 := fun h => (List.mem_cons.mp h).elim D.T1 (nd k1 xs hqx TO (by simp)), TIi2 := D.TIi2, mem2 := by simp,
        zf2 := fun h => (List.mem_cons.mp h).elim D.z2 (nd k2 ys hqy z (by simp)), Tf2 := fun h => (List.mem_cons.mp h).elim D.T2 (nd k2 ys hqy TO (by simp)),
        sep1_2 := fun h => (List.mem_cons.mp h).elim D.i12 (nd k2 ys hqy i1 (by simp)), sep2_1 := fun h => (List.mem_cons.mp h).elim (fun e => D.i12 e.symm) (nd k1 xs hqx i2 (by simp)) }
    have W := GoesN.zip2 (elts := elts) (x1 := kk) (pos := tpos) S D1 D2
    exact W.stops s (fun s1 => Inv X pins σ H s1) E ⟨hz, hTI, hTO, s1, s2⟩ fun h' tk hk _ => I.turnedL (ch := [z, TI, TO, i1, i2]) (fun c o hb q => hk c o (fun q' => hb (by
      have : c = z ∨ c = TO ∨ c = i1 ∨ c = i2 := by simpa using q'
      simp; rcases this with h | h | h | h <;> simp [h])) q) hf
  self := fun A i s Q E st h => wpAny_pyIter_zip st.1 h
theorem Sk.begins {X : Cx} {pins : List (Addr × Obj)} {σ : L2.St} {H : Hp} {s : Shared} {k : Sk} {vs : List V} {u : Value} (I : Inv X pins σ H s) (h : k.Has H vs) (r : k.RelS u) :
    ∃ (o : Obj) (Hh : Heap → Prop), Begins u o Hh ∧ Hh s.heap ∧ ∀ it h', h'.get? it = some o → k.It it 0 h' := by
  cases k with
  | l a =>
    cases r
    obtain ⟨its, rv, p, _⟩ := I.list (SqL.of (show H a = some (.lst vs) from h))
    exact ⟨_, _, begins_list a its.toArray, p.isList, fun it h' e => ⟨_, e, rfl, rfl⟩⟩
  | t a =>
    cases r
    obtain ⟨its, rv, p, _⟩ := I.tuple (SqT.of (show H a = some (.tup vs) from h))
    exact ⟨_, _, begins_tuple a its.toArray, p, fun it h' e => ⟨_, e, rfl, rfl⟩⟩
  | s x =>
    obtain ⟨t, rfl⟩ := r
    exact ⟨_, _, begins_text x t, trivial, fun it h' e => ⟨t, _, e, rfl, rfl⟩⟩
def iZipG (ta : TA) : TI := fun σ H R => ta σ H fun vs H1 => ∃ (k1 k2 : Sk) (v1 v2 : V) (xs ys : List V), vs = [v1, v2] ∧ (∀ u, RelV v1 u → k1.RelS u) ∧ (∀ u, RelV v2 u → k2.RelS u) ∧ k1.Has H1 xs ∧ k2.Has H1 ys ∧ R (ItzG k1 k2) H1
theorem pi_zipG {X : Cx} {e e2 : Expr} {ta : TA} {p pos tpos : Pos} {elts : List Expr} {kk : Nat} (hg : Gl X "zip") (hm : X.mg "zip" = none) (ha : PA X [e, e2] ta)
    (hs : starEach [e, e2] X.env = (false, eval e X.env) :: starEach [e2] X.env := by rfl) (hpl : (backTo pos (starEach [e2] X.env)).any (·.1) = false := by rfl) :
    PI X (.Tuple elts kk tpos) (.Call (.Name "zip" p) [e, e2] [] pos) (iZipG ta) := by
  refine ⟨fun pins s σ H R I h => ?_⟩
  refine Call_ (ld_blt I hg hm PyProof.Rows.boot_zip (PyProof.Rows.callWith_type1 (thn (ha.run pos pins s σ H _ I h) fun us s1 ⟨vs, H1, I1, r1, q1⟩ => ?_) hs hpl))
  obtain ⟨k1, k2, v1, v2, xs, ys, ex, q1, q2, hqx, hqy, q⟩ := q1
  subst ex
  cases r1 with
  | cons r rr =>
    cases rr with
    | cons r' rr =>
      cases rr
      obtain ⟨o1, Hh1, B1, g1, t1⟩ := Sk.begins I1 hqx (q1 _ r)
      obtain ⟨o2, Hh2, B2, g2, t2⟩ := Sk.begins I1 hqy (q2 _ r')
      refine zip_begins2 B1 B2 g1 g2 fun h' hz hTI hTO h1 h2 hsz hk => wpAny_pyIter_zip hz ?_
      have I2 : Inv X pins σ H1 { s1 with heap := h' } := I1.kept (t' := s1.toks) hk
      have D : Apart5 (s1.heap.objs.size + 4) (s1.heap.objs.size + 2) (s1.heap.objs.size + 3) s1.heap.objs.size (s1.heap.objs.size + 1) := by
        have hne : ∀ (n a b : Nat), a ≠ b → n + a ≠ n + b := fun n a b h => by omega
        have hne0 : ∀ (n a : Nat), a ≠ 0 → n + a ≠ n := fun n a h => by omega
        exact ⟨hne _ _ _ (by decide), hne _ _ _ (by decide), hne _ _ _ (by decide), hne0 _ _ (by decide), hne _ _ _ (by decide), hne0 _ _ (by decide), hne _ _ _ (by decide), hne0 _ _ (by decide), hne _ _ _ (by decide), fun z => hne0 _ _ (by decide) z.symm⟩
      refine ⟨s1.heap.objs.size + 4, [s1.heap.objs.size + 4, s1.heap.objs.size + 2, s1.heap.objs.size + 3, s1.heap.objs.size, s1.heap.objs.size + 1], _, _, H1, rfl, I2, turn_zipG D, ⟨hz, hTI, ⟨_, _, hTO⟩, t1 _ _ h1, t2 _ _ h2⟩, fun c hcm => ?_, q⟩
      have e' : c = s1.heap.objs.size + 4 ∨ c = s1.heap.objs.size + 2 ∨ c = s1.heap.objs.size + 3 ∨ c = s1.heap.objs.size ∨ c = s1.heap.objs.size + 1 := by simpa using hcm
      have hle : s1.heap.objs.size ≤ c := by
        rcases e' with z | z | z | z | z
        · rw [z]; exact Nat.le_add_right _ _
        · rw [z]; exact Nat.le_add_right _ _
        · rw [z]; exact Nat.le_add_right _ _
        · rw [z]; exact Nat.le_refl _
        · rw [z]; exact Nat.le_add_right _ _
      exact I1.fpOk hle (I1.hok.fresh hle)
theorem walk_zipG {k1 k2 : Sk} {xs ys : List V} : Walk (ItzG k1 k2) (min xs.length ys.length) (fun H => k1.Has H xs ∧ k2.Has H ys) (YPair (fun i => xs[i]?) (fun i => ys[i]?)) := by
  refine ⟨fun i H hi q => ?_, fun H q => ⟨xs, ys, q.1, q.2, rfl⟩, fun i H v H' _ q y => ?_⟩
  · have h1 : i < xs.length := by omega
    have h2 : i < ys.length := by omega
    exact ⟨xs, ys, xs[i], ys[i], q.1, q.2, by simp [h1], by simp [h2]⟩
  · obtain ⟨T, x, z, h1, h2, h3, h4, h5⟩ := y
    exact ⟨T, x, z, h1, h2, h3, h4 xs q.1, h5 ys q.2⟩

/-! ### in the layer -/
def zipP : List PV → Option (List PV)
  | [p, q] => (match itsP p, itsP q with
    | some xs, some ys => (match p, q with
      | .scr _, _ => none
      | _, .scr _ => none
      | _, _ => some (List.zipWith (fun x y => PV.tup [x, y]) xs ys))
    | _, _ => none)
  | _ => none
section
variable {K : PySem.W.Frag} {hd : Option Addr} {F H B : Hp} {v : V} {p : PV} {ps : List PV}
theorem Sk.of (cx : Ctx hd F H) (m : Md) (r : RpM m K hd H F H v p) (hB : (m = .fz ∧ B = F) ∨ B = H) (e : itsP p = some ps) (hn : ∀ ns, p ≠ .scr ns) :
    ∃ k vs, (∀ u, RelV v u → Sk.RelS k u) ∧ Sk.Has H k vs ∧ RpL K hd F vs ps ∧ ∀ H', (∀ b o, B b = some o → some b ≠ hd → H' b = some o) → Sk.Has H' k vs := by
  cases p with
  | lst xs =>
    cases e
    obtain ⟨a, vs, rfl, ha, la⟩ := RpB.lst cx.sub r.bw
    refine ⟨.l a, vs, fun u ru => ru, ha, la, fun H' k => ?_⟩
    rcases hB with ⟨rfl, rfl⟩ | rfl
    · cases r with
      | lst h l =>
        have e2 := cx.sub _ _ h
        rw [ha] at e2
        cases e2
        exact k _ _ h (cx.fne h)
    · have hne : some a ≠ hd := by
        rcases r.bw with r | ⟨a', o, e', h2, h3, h4, h5⟩
        · cases r with
          | lst hq' _ => exact cx.fne hq'
        · cases e'
          exact h4
      exact k _ _ ha hne
  | tup xs =>
    cases e
    obtain ⟨a, vs, rfl, ha, la⟩ := RpB.tup r.bw
    refine ⟨.t a, vs, fun u ru => ru, cx.sub _ _ ha, la, fun H' k => ?_⟩
    rcases hB with ⟨rfl, rfl⟩ | rfl
    · exact k _ _ ha (cx.fne ha)
    · exact k _ _ (cx.sub _ _ ha) (cx.fne ha)
  | str x =>
    cases e
    obtain ⟨a, rfl, rfl⟩ := RpB.str r.bw
    refine ⟨.s a, _, fun u ru => ru, rfl, ?_, fun H' k => rfl⟩
    generalize a.cps.toList = l
    induction l with
    | nil => exact .nil
    | cons c l ih => exact .cons (rstr _ _ rfl) ih
  | scr ns => exact absurd rfl (hn ns)
  | _ => cases e
end
section
variable {X : Cx} {c : Fc} {e e2 : Expr} {ds : DA} {p pos tpos : Pos} {elts : List Expr} {kk : Nat}
theorem zip_ok {K : PySem.W.Frag} {hd : Option Addr} {F H B : Hp} {k1 k2 : Sk} {xs ys : List V} {ps qs : List PV} (hx : ∀ H', (∀ b o, B b = some o → some b ≠ hd → H' b = some o) → Sk.Has H' k1 xs) (hy : ∀ H', (∀ b o, B b = some o → some b ≠ hd → H' b = some o) → Sk.Has H' k2 ys)
    (lx : RpL K hd F xs ps) (ly : RpL K hd F ys qs) : ItOk K hd B (ItzG k1 k2) (List.zipWith (fun x y => PV.tup [x, y]) ps qs) F H := by
  refine ⟨⟨fun H => k1.Has H xs ∧ k2.Has H ys, YPair (fun i => xs[i]?) (fun i => ys[i]?), ?_, fun H' k => ⟨hx H' k, hy H' k⟩, fun i F' H' x H'' s cx _ hi q => ?_⟩⟩
  · rw [List.length_zipWith, ← lx.length, ← ly.length]; exact walk_zipG
  obtain ⟨T, v, w, rfl, hT, rfl, hv, hw⟩ := q
  obtain ⟨p, p1, p2⟩ := lx.get' hv
  obtain ⟨q, q1, q2⟩ := ly.get' hw
  refine ⟨upd F' T (.tup [v, w]), .tup [p, q], Step.newF cx.sub hT, by simp [List.getElem?_zipWith, p1, q1], .tup upd_same (.cons ((p2.mono s).mono (Sub.new (cx.sub.none hT))) (.cons ((q2.mono s).mono (Sub.new (cx.sub.none hT))) .nil))⟩
theorem zip_imp {fz : Bool} {m : Md} (hm : m = if fz = true then .fz else .bw) (hl : ∀ ρ hs xs h1, ds ρ hs = some (xs, h1) → xs.length = 2) (σ : L2.St) (H : Hp) (R : It → Hp → Prop) (h : tI c fz (dItA zipP ds) σ H R) : iZipG (tPL c m ds) σ H R := by
  obtain ⟨F, ρ, hs, ps, hs', g, e, k⟩ := h
  obtain ⟨xs, e1, e3⟩ := dItA_some e
  refine ⟨F, ρ, hs, xs, hs', g, e1, fun vs F1 H1 s1 g1 r1 => ?_⟩
  have hx := hl _ _ _ _ e1
  obtain ⟨q, q', rfl⟩ : ∃ q q', xs = [q, q'] := by
    match xs, hx with
    | [q, q'], _ => exact ⟨q, q', rfl⟩
  obtain ⟨v, w, rfl, r, r'⟩ := r1.inv2
  unfold zipP at e3
  cases a1 : itsP q with
  | none => simp only [a1] at e3; cases e3
  | some l1 =>
    cases a2 : itsP q' with
    | none => simp only [a1, a2] at e3; cases e3
    | some l2 =>
      simp only [a1, a2] at e3
      split at e3
      · cases e3
      · cases e3
      · rename_i n1 n2
        cases e3
        have cx := g1.ctx
        have hr : RpM m c.K c.hd H1 F1 H1 v q := by
          rw [hm] at r ⊢
          cases fz
          · exact r
          · exact r
        have hr' : RpM m c.K c.hd H1 F1 H1 w q' := by
          rw [hm] at r' ⊢
          cases fz
          · exact r'
          · exact r'
        have hB : (m = .fz ∧ (if fz = true then F1 else H1) = F1) ∨ (if fz = true then F1 else H1) = H1 := by
          cases fz
          · exact .inr rfl
          · exact .inl ⟨hm, rfl⟩
        obtain ⟨k1, xs, b1, c1, d1, f1⟩ := Sk.of cx m hr hB a1 (fun ns z => n1 ns z)
        obtain ⟨k2, ys, b2, c2, d2, f2⟩ := Sk.of cx m hr' hB a2 (fun ns z => n2 ns z)
        exact ⟨k1, k2, v, w, xs, ys, rfl, b1, b2, c1, c2, k _ F1 H1 s1 g1 (zip_ok f1 f2 d1 d2)⟩
theorem i_zip_fz (hg : Gl X "zip") (hm : X.mg "zip" = none) (ha : PAp X c .fz [e, e2] ds) (hl : ∀ ρ hs xs h1, ds ρ hs = some (xs, h1) → xs.length = 2)
    (hs : starEach [e, e2] X.env = (false, eval e X.env) :: starEach [e2] X.env := by rfl) (hpl : (backTo pos (starEach [e2] X.env)).any (·.1) = false := by rfl) : PIt X c true (.Tuple elts kk tpos) (.Call (.Name "zip" p) [e, e2] [] pos) (dItA zipP ds) :=
  pi_imp (pi_zipG hg hm ha hs hpl) (zip_imp rfl hl)
theorem i_zip_bw (hg : Gl X "zip") (hm : X.mg "zip" = none) (ha : PAp X c .bw [e, e2] ds) (hl : ∀ ρ hs xs h1, ds ρ hs = some (xs, h1) → xs.length = 2)
    (hs : starEach [e, e2] X.env = (false, eval e X.env) :: starEach [e2] X.env := by rfl) (hpl : (backTo pos (starEach [e2] X.env)).any (·.1) = false := by rfl) : PIt X c false (.Tuple elts kk tpos) (.Call (.Name "zip" p) [e, e2] [] pos) (dItA zipP ds) :=
  pi_imp (pi_zipG hg hm ha hs hpl) (zip_imp rfl hl)

/-! ### enumerate(a list) -/
def enumL (i : Nat) : List PV → List PV
  | [] => []
  | p :: ps => .tup [.int (i : Nat), p] :: enumL (i + 1) ps
theorem enumL_len : ∀ (ps : List PV) (i : Nat), (enumL i ps).length = ps.length
  | [], _ => rfl
  | p :: ps, i => by simp [enumL, enumL_len ps]
theorem enumL_get : ∀ (ps : List PV) (j i : Nat) (p : PV), ps[i]? = some p → (enumL j ps)[i]? = some (.tup [.int ((j + i : Nat) : Int), p])
  | [], _, _, _, h => by simp at h
  | q :: ps, j, 0, p, h => by simp at h; subst h; simp [enumL]
  | q :: ps, j, i + 1, p, h => by
    have := enumL_get ps (j + 1) i p (by simpa using h)
    simp only [enumL, List.getElem?_cons_succ]
    rw [this]
    rw [show j + 1 + i = j + (i + 1) by omega]
def enumP : List PV → Option (List PV)
  | [.lst xs] => some (enumL 0 xs)
  | _ => none
theorem enum_imp {fz : Bool} {m : Md} (hm : m = if fz = true then .fz else .bw) (hK : X.K = c.K) (hl : ∀ ρ hs xs h1, ds ρ hs = some (xs, h1) → xs.length = 1) (σ : L2.St) (H : Hp) (R : It → Hp → Prop) (h : tI c fz (dItA enumP ds) σ H R) : iEnum X.K (tPL c m ds) σ H R := by
  obtain ⟨F, ρ, hs, ps, hs', g, e, k⟩ := h
  obtain ⟨xs, e1, e3⟩ := dItA_some e
  refine ⟨F, ρ, hs, xs, hs', g, e1, fun vs F1 H1 s1 g1 r1 => ?_⟩
  have hx := hl _ _ _ _ e1
  obtain ⟨q, rfl⟩ : ∃ q, xs = [q] := by
    match xs, hx with
    | [q], _ => exact ⟨q, rfl⟩
  obtain ⟨v, rfl, r⟩ := r1.inv1
  cases q with
  | lst qs =>
    cases e3
    have cx := g1.ctx
    have hr : RpM m c.K c.hd H1 F1 H1 v (.lst qs) := by
      rw [hm] at r ⊢
      cases fz
      · exact r
      · exact r
    have hB : (m = .fz ∧ (if fz = true then F1 else H1) = F1) ∨ (if fz = true then F1 else H1) = H1 := by
      cases fz
      · exact .inr rfl
      · exact .inl ⟨hm, rfl⟩
    obtain ⟨k1, ws, b1, c1, d1, f1⟩ := Sk.of cx m hr hB rfl (fun ns z => nomatch z)
    obtain ⟨a, vs, rfl, ha, la⟩ := RpB.lst cx.sub r.bw
    have hb := b1 (.ref a) rfl
    cases k1 with
    | l a' =>
      cases hb
      have c1 : H1 a = _ := c1
      have hws : ws = vs := by rw [ha] at c1; cases c1; rfl
      subst hws
      rw [hK]
      refine ⟨a, ws, rfl, SqL.of ha, k _ F1 H1 s1 g1 ?_⟩
      refine ⟨_, _, by rw [enumL_len, ← la.length]; exact walk_enum (K := c.K) (a := a) (xs := ws), fun H' kk => SqL.of (f1 H' kk), fun i F' H' x H'' s cx' _ hi q => ?_⟩
      obtain ⟨T, x1, x2, rfl, hT, rfl, hv, hw⟩ := q
      cases hv
      obtain ⟨p, p1, p2⟩ := d1.get' hw
      have := enumL_get qs 0 i p p1
      rw [Nat.zero_add] at this
      exact ⟨upd F' T (.tup [.int (i : Nat), x2]), _, Step.newF cx'.sub hT, this, .tup upd_same (.cons (.int _) (.cons ((p2.mono s).mono (Sub.new (cx'.sub.none hT))) .nil))⟩
    | t a' =>
      cases hb
      have c1 : H1 a = some (.tup ws) := c1
      rw [ha] at c1
      cases c1
    | s x =>
      obtain ⟨t, ht⟩ := hb
      cases ht
  | _ => cases e3
theorem i_enum_fz (hg : Gl X "enumerate") (hm : X.mg "enumerate" = none) (ha : PAp X c .fz [e] ds) (hl : ∀ ρ hs xs h1, ds ρ hs = some (xs, h1) → xs.length = 1) (hs : starEach [e] X.env = [(false, eval e X.env)] := by rfl) (hK : X.K = c.K := by rfl) :
    PIt X c true (.Tuple elts kk tpos) (.Call (.Name "enumerate" p) [e] [] pos) (dItA enumP ds) := pi_imp (pi_enum hg hm ha hs) (enum_imp rfl hK hl)
theorem i_enum_bw (hg : Gl X "enumerate") (hm : X.mg "enumerate" = none) (ha : PAp X c .bw [e] ds) (hl : ∀ ρ hs xs h1, ds ρ hs = some (xs, h1) → xs.length = 1) (hs : starEach [e] X.env = [(false, eval e X.env)] := by rfl) (hK : X.K = c.K := by rfl) :
    PIt X c false (.Tuple elts kk tpos) (.Call (.Name "enumerate" p) [e] [] pos) (dItA enumP ds) := pi_imp (pi_enum hg hm ha hs) (enum_imp rfl hK hl)
end
end PL

set_option Elab.async false
set_option linter.all false
set_option maxRecDepth 100000
set_option maxHeartbeats 1000000
/-! PL, part k: dicts (keys ints and texts). -/
namespace PL
open PySem PySem.Spec PyProof.Rows L2

def keqP : PV → PV → Bool
  | .int a, .int b => a == b
  | .str a, .str b => a == b
  | _, _ => false
def isKeyP : PV → Bool
  | .int _ => true
  | .str _ => true
  | _ => false
theorem keqP_key : ∀ (a b : Key), keqP (keyP a) (keyP b) = decide (a = b)
  | .inl i, .inl j => by
    show (i == j) = _
    by_cases h : i = j <;> simp [h]
  | .inl i, .inr y => by simp [keqP, keyP]
  | .inr x, .inl j => by simp [keqP, keyP]
  | .inr x, .inr y => by
    show (x.cps.toList == y.cps.toList) = _
    by_cases h : x = y
    · subst h; simp
    · have : (x.cps.toList == y.cps.toList) = false := by
        cases q : (x.cps.toList == y.cps.toList) with
        | false => rfl
        | true =>
          refine absurd ?_ h
          have z := Array.toList_inj.mp (eq_of_beq q)
          cases x; cases y
          cases z
          rfl
      rw [this]
      exact (decide_eq_false fun z => h (Sum.inr.inj z)).symm
def lookP : List (PV × PV) → PV → Option PV
  | [], _ => none
  | (a, v) :: r, k => if keqP a k = true then some v else lookP r k
def putP (kvs : List (PV × PV)) (k v : PV) : List (PV × PV) :=
  if (kvs.any fun kv => keqP kv.1 k) = true then kvs.map (fun kv => if keqP kv.1 k = true then (kv.1, v) else kv) else kvs ++ [(k, v)]
def dgP : PV → PV → Option PV
  | .dct kvs, k => if isKeyP k = true then lookP kvs k else none
  | _, _ => none
def dpP : PV → PV → PV → Option PV
  | .dct kvs, k, v => if isKeyP k = true ∧ kvs.length < sizeLine then some (.dct (putP kvs k v)) else none
  | _, _, _ => none
section
variable {K : PySem.W.Frag} {hd : Option Addr} {F F' H : Hp} {v : V} {p : PV}
theorem RpD.length : ∀ {vs : List (Key × V)} {ps : List (PV × PV)}, RpD K hd F vs ps → vs.length = ps.length
  | _, _, .nil => rfl
  | _, _, .cons _ b => by simp [RpD.length b]
theorem RpD.look (k : Key) : ∀ {vs : List (Key × V)} {ps : List (PV × PV)}, RpD K hd F vs ps → (∀ p, lookP ps (keyP k) = some p → ∃ v, valV vs k = some v ∧ Rp K hd F v p) ∧ (lookP ps (keyP k) = none → valV vs k = none)
  | _, _, .nil => ⟨fun p e => (nomatch e), fun _ => rfl⟩
  | _, _, .cons (k := j) (v := v) a b => by
    have ih := RpD.look k b
    unfold lookP
    rw [keqP_key]
    by_cases h : j = k
    · rw [valV_pos (p := (j, v)) h]
      simp only [h, decide_true, if_true]
      exact ⟨fun p e => ⟨v, rfl, by cases e; exact a⟩, fun e => nomatch e⟩
    · rw [valV_neg (p := (j, v)) h]
      simp only [h, decide_false, Bool.false_eq_true, if_false]
      exact ih
theorem RpD.any (k : Key) : ∀ {vs : List (Key × V)} {ps : List (PV × PV)}, RpD K hd F vs ps → (ps.any fun kv => keqP kv.1 (keyP k)) = vs.any fun kv => decide (kv.1 = k)
  | _, _, .nil => rfl
  | _, _, .cons (k := j) (v := v) a b => by
    rw [List.any_cons, List.any_cons, RpD.any k b, keqP_key]
theorem RpD.repl (k : Key) (r : Rp K hd F v p) : ∀ {vs : List (Key × V)} {ps : List (PV × PV)}, RpD K hd F vs ps → RpD K hd F (vs.map fun kv => if kv.1 = k then (kv.1, v) else kv) (ps.map (fun kv => if keqP kv.1 (keyP k) = true then (kv.1, p) else kv))
  | _, _, .nil => .nil
  | _, _, .cons (k := j) (v := v) a b => by
    rw [List.map_cons, List.map_cons]
    simp only [keqP_key]
    by_cases h : j = k
    · simp only [h, decide_true, if_true]
      exact .cons r (RpD.repl k r b)
    · simp only [h, decide_false, Bool.false_eq_true, if_false]
      exact .cons a (RpD.repl k r b)
theorem RpD.snoc (k : Key) (r : Rp K hd F v p) : ∀ {vs : List (Key × V)} {ps : List (PV × PV)}, RpD K hd F vs ps → RpD K hd F (vs ++ [(k, v)]) (ps ++ [(keyP k, p)])
  | _, _, .nil => .cons r .nil
  | _, _, .cons a b => .cons a (RpD.snoc k r b)
theorem RpD.put (k : Key) (r : Rp K hd F v p) {vs : List (Key × V)} {ps : List (PV × PV)} (d : RpD K hd F vs ps) : RpD K hd F (putK vs k v) (putP ps (keyP k) p) := by
  unfold putK putP
  rw [d.any k]
  split
  · exact d.repl k r
  · exact d.snoc k r
theorem RpB.dct {ps : List (PV × PV)} (s : Sub F H) (h : RpB K hd F H v (.dct ps)) : ∃ a vs, v = .ref a ∧ H a = some (.dK vs) ∧ RpD K hd F vs ps := by
  rcases h with h | ⟨a, o, e, h1, h2, h3, h4⟩
  · cases h with
    | dct h l => exact ⟨_, _, rfl, s _ _ h, l⟩
  · cases o <;> first | exact False.elim h4 | exact ⟨a, _, e, h1, h4⟩
theorem ObRep.dct_inv {o : HO} {ps : List (PV × PV)} (h : ObRep K hd F o (.dct ps)) : ∃ vs, o = .dK vs ∧ RpD K hd F vs ps := by
  cases o <;> first | exact False.elim h | exact ⟨_, rfl, h⟩
theorem RpB.key (h : RpB K hd F H v p) (k : isKeyP p = true) : ∃ j, v = kV j ∧ p = keyP j := by
  cases p with
  | int i => exact ⟨.inl i, h.int, rfl⟩
  | str x =>
    obtain ⟨z, rfl, rfl⟩ := h.str
    exact ⟨.inr z, rfl, rfl⟩
  | _ => cases k
def rDg : R2 := fun x y H Q => ∃ a v, x = .ref a ∧ DGet H a y (some v) ∧ Q v H
theorem dg_ok : OpOk K hd .fz dgP rDg := fun F H v w p q z Q cx rp rq e k => by
  cases p with
  | dct kvs =>
    have e : (if isKeyP q = true then lookP kvs q else none) = some z := e
    split at e
    · rename_i hk
      obtain ⟨a, vs, rfl, h1, h2⟩ := RpB.dct cx.sub rp
      obtain ⟨j, rfl, rfl⟩ := rq.key hk
      obtain ⟨u, h3, h4⟩ := (h2.look j).1 z e
      refine ⟨a, u, rfl, ?_, k u F H (Step.refl cx.sub) h4⟩
      rw [← h3]
      exact DGet.k h1
    · cases e
  | _ => cases e
end
section
variable {X : Cx} {c : Fc} {md m1 m2 rm : Md} {a b e ob ix : Expr} {da db d di de : DE} {pos pos' : Pos}
theorem p_dg (hu : X.A.units + 1 < cLine) (ha : PEp X c m1 a da) (hb : PEp X c m2 b db) (hs : NoSl b := by intro _ _; rfl) : PEp X c .fz (.Subscript a b pos) (dBin dgP da db) :=
  pe_imp (pe_dget hu ha hb hs) fun σ H Q h => op_imp dg_ok (m1 := m1) (m2 := m2) σ H Q h
/-- key in dict -/
def dinP : PV → PV → Option PV
  | k, .dct kvs => if isKeyP k = true then some (.bl (lookP kvs k).isSome) else none
  | _, _ => none
def dninP : PV → PV → Option PV
  | k, .dct kvs => if isKeyP k = true then some (.bl (!(lookP kvs k).isSome)) else none
  | _, _ => none
theorem p_dnew : PEp X c .fr (.Dict [] [] pos) (dC (.dct [])) := pe_imp pe_dnewK fun σ H Q ⟨F, ρ, hs, z, hs', g, e, k⟩ p hp => by
  cases e
  have s1 : Step c.hd F H F (upd H p (.dK [])) := Step.new g.sub hp
  exact k _ F _ s1 (g.pure (Step.new g.sub hp)) (RpM.new g.ctx hp (show ObRep c.K c.hd F (.dK []) (.dct []) from .nil))
/-- ob[ix] = e, ob a dict of this slot alone -/
def dsDp (i : Nat) (di de : DE) : DS := fun ρ hs => match de ρ hs with
  | none => none
  | some (y, h1) => match di ρ h1 with
    | none => none
    | some (k, h2) => match ρ[i]? with
      | some (some (.own p)) => (match dpP p k y with
        | none => none
        | some p' => some (.nx (ρ.set i (some (.own p'))) h2))
      | _ => none
theorem s_dput {i : Nat} (hu : X.A.units + 1 < cLine) (ho : PE X ob (tVar i)) (hi : PEp X c m1 ix di) (he : PEp X c .fz e de) (hs : swapsWith e (some (.Subscript ob ix pos')) pos.line X.env = pure false := by rfl) :
    PSp X c rm (.Assign [.Subscript ob ix pos'] e pos) (dsDp i di de) := ps_of (ps_dput hu ho hi he hs) fun D σ H F ρ hs o g e q => by
  unfold dsDp at e
  split at e
  · cases e
  rename_i y h1 e1
  split at e
  · cases e
  rename_i k h2 e2
  split at e
  case h_2 => cases e
  rename_i p hp
  split at e
  · cases e
  rename_i p' e3
  cases e
  cases p with
  | dct kvs =>
    have e3 : (if isKeyP k = true ∧ kvs.length < sizeLine then some (PV.dct (putP kvs k y)) else none) = some p' := e3
    split at e3
    case isFalse => cases e3
    rename_i hk
    cases e3
    obtain ⟨v, w1, a, o, rfl, w2, w3, w4, w5, w6⟩ := g.slot i _ hp
    obtain ⟨vs', rfl, w7⟩ := w6.dct_inv
    refine ⟨F, ρ, hs, y, h1, g, e1, fun v F1 H1 s1 g1 r1 => ⟨_, w1, F1, ρ, h1, _, h2, g1, e2, fun w F2 H2 s2 g2 r2 => ?_⟩⟩
    have s12 := s1.trans s2
    have H2a : H2 a = some (.dK vs') := s12.ext a _ w2 w5
    obtain ⟨j, rfl, rfl⟩ := r2.bw.key hk.1
    refine ⟨a, _, rfl, DPut.k H2a (by rw [w7.length]; exact hk.2), ?_⟩
    exact q σ F2 _ s12.mono (g2.chg hp w1 H2a (show ObRep c.K c.hd F2 (.dK _) (.dct _) from (w7.mono s12.mono).put j (r1.step s2)))
  | _ => cases e3
end

/-! ### a display -/
abbrev DPs := Rho → HS → Option (List (PV × PV) × HS)
inductive RpPs (K : PySem.W.Frag) (hd : Option Addr) (F : Hp) : List (V × V) → List (PV × PV) → Prop
  | nil : RpPs K hd F [] []
  | cons {a b : V} {p q : PV} {vs : List (V × V)} {ps : List (PV × PV)} : Rp K hd F a p → Rp K hd F b q → RpPs K hd F vs ps → RpPs K hd F ((a, b) :: vs) ((p, q) :: ps)
theorem RpPs.length {K : PySem.W.Frag} {hd : Option Addr} {F : Hp} : ∀ {vs : List (V × V)} {ps : List (PV × PV)}, RpPs K hd F vs ps → vs.length = ps.length
  | _, _, .nil => rfl
  | _, _, .cons _ _ b => by simp [RpPs.length b]
def tPp (c : Fc) (d : DPs) : L2.St → Hp → (List (V × V) → Hp → Prop) → Prop := fun σ H Q => ∃ F ρ hs ps hs', G c F H σ ρ hs ∧ d ρ hs = some (ps, hs') ∧
  ∀ vs F' H', Step c.hd F H F' H' → G c F' H' σ ρ hs' → RpPs c.K c.hd F' vs ps → Q vs H'
structure PDp (X : Cx) (c : Fc) (pos : Pos) (keys : List (Option Expr)) (values : List Expr) (d : DPs) : Prop where
  ex : ∃ trs, PPs X pos keys values trs ∧ ∀ σ H Q, tPp c d σ H Q → tPairs trs σ H Q
def dPn : DPs := fun _ hs => some ([], hs)
def dPc (a b : DE) (r : DPs) : DPs := fun ρ hs => match a ρ hs with
  | none => none
  | some (x, h1) => match b ρ h1 with
    | none => none
    | some (y, h2) => match r ρ h2 with
      | none => none
      | some (ps, h3) => some ((x, y) :: ps, h3)
def mergeP (kvs more : List (PV × PV)) : List (PV × PV) := more.foldl (fun acc kv => putP acc kv.1 kv.2) kvs
def dDisp (r : DPs) : DE := fun ρ hs => match r ρ hs with
  | none => none
  | some (ps, h1) => if (ps.all fun kv => isKeyP kv.1) = true ∧ ps.length ≤ 15 then some (.dct (mergeP [] ps), h1) else none
section
variable {X : Cx} {c : Fc} {pos : Pos} {k v : Expr} {ks : List (Option Expr)} {vs : List Expr} {dk dv : DE} {dr : DPs}
theorem RpPs.mono {K : PySem.W.Frag} {hd : Option Addr} {F F' : Hp} (e : Sub F F') : ∀ {vs : List (V × V)} {ps : List (PV × PV)}, RpPs K hd F vs ps → RpPs K hd F' vs ps
  | _, _, .nil => .nil
  | _, _, .cons a b r => .cons (a.mono e) (b.mono e) (RpPs.mono e r)
theorem pd_n : PDp X c pos [] [] dPn := ⟨⟨[], pps_nil, fun σ H Q ⟨F, ρ, hs, ps, hs', g, e, k⟩ => by
  cases e
  exact k [] F H (Step.refl g.sub) g .nil⟩⟩
theorem pd_c (hk : PEp X c .fz k dk) (hv : PEp X c .fz v dv) (hr : PDp X c pos ks vs dr) : PDp X c pos (some k :: ks) (v :: vs) (dPc dk dv dr) := by
  obtain ⟨trs, h1, h2⟩ := hr.ex
  refine ⟨⟨_, pps_cons hk hv h1, fun σ H Q ⟨F, ρ, hs, ps, hs', g, e, kk⟩ => ?_⟩⟩
  unfold dPc at e
  split at e
  · cases e
  rename_i x g1 e1
  split at e
  · cases e
  rename_i y g2 e2
  split at e
  · cases e
  rename_i ps' g3 e3
  cases e
  refine ⟨F, ρ, hs, x, g1, g, e1, fun v1 F1 H1 s1 q1 r1 => ⟨F1, ρ, g1, y, g2, q1, e2, fun v2 F2 H2 s2 q2 r2 => h2 _ _ _ ⟨F2, ρ, g2, ps', _, q2, e3, fun vs F3 H3 s3 q3 r3 => ?_⟩⟩⟩
  exact kk _ F3 H3 ((s1.trans s2).trans s3) q3 (.cons ((r1.step s2).step s3) (r2.step s3) r3)
theorem RpPs.keys {K : PySem.W.Frag} {hd : Option Addr} {F : Hp} : ∀ {vs : List (V × V)} {ps : List (PV × PV)}, RpPs K hd F vs ps → (ps.all fun kv => isKeyP kv.1) = true → ∃ kvs : List (Key × V), vs = kvs.map (fun kv => (kV kv.1, kv.2)) ∧ RpD K hd F kvs ps
  | _, _, .nil, _ => ⟨[], rfl, .nil⟩
  | _, _, .cons a b r, h => by
    simp only [List.all_cons, Bool.and_eq_true] at h
    obtain ⟨kvs, rfl, q⟩ := RpPs.keys r h.2
    obtain ⟨j, rfl, rfl⟩ := RpB.key (H := F) (.inl a) h.1
    exact ⟨(j, _) :: kvs, rfl, .cons b q⟩
theorem RpD_merge {K : PySem.W.Frag} {hd : Option Addr} {F : Hp} : ∀ {more : List (Key × V)} {ps : List (PV × PV)} {kvs : List (Key × V)} {qs : List (PV × PV)}, RpD K hd F more ps → RpD K hd F kvs qs → RpD K hd F (mergeK kvs more) (mergeP qs ps)
  | _, _, _, _, .nil, h => h
  | _, _, kvs, qs, .cons (k := j) (v := v) (p := p) (vs := vs) (ps := ps) a b, h => show RpD K hd F (mergeK (putK kvs j v) vs) (mergeP (putP qs (keyP j) p) ps) from RpD_merge b (RpD.put j a h)
theorem p_disp (h : PDp X c pos ks vs dr) (hall : ks.all (·.isSome) = true := by rfl) (hl : ks.length = vs.length := by rfl) (h0 : ks ≠ [] := by exact fun z => nomatch z) (h15 : ks.length ≤ 15 := by decide) : PEp X c .fr (.Dict ks vs pos) (dDisp dr) := by
  obtain ⟨trs, h1, h2⟩ := h.ex
  refine pe_imp (pe_disp h1 hall hl h0 h15) fun σ H Q ⟨F, ρ, hs, z, hs', g, e, k⟩ p hp => ?_
  unfold dDisp at e
  split at e
  · cases e
  rename_i ps g1 e1
  split at e
  case isFalse => cases e
  rename_i hk
  cases e
  have st : Step none F H F (upd H p (.dK [])) := Step.new g.sub hp
  refine h2 _ _ _ ⟨F, ρ, hs, ps, _, g.pure st, e1, fun vs F1 H1 s1 q1 r1 => ?_⟩
  have nh : some p ≠ c.hd := g.ctx.ne hp
  have h1p : H1 p = some (.dK []) := s1.ext p _ upd_same nh
  have F1p : F1 p = none := (s1.old p (by rw [upd_same]; exact fun z => nomatch z)).trans (g.sub.none hp)
  obtain ⟨kvs, rfl, rd⟩ := r1.keys hk.1
  refine ⟨h1p, kvs, rfl, by rw [rd.length]; exact hk.2, ?_⟩
  have no : ∀ (i : Nat) (q : PV), ρ[i]? = some (some (.own q)) → σ[i]? ≠ some (some (.ref p)) := fun i q e1 e2 => by
    obtain ⟨v, q1, a, o, rfl, q2, _⟩ := g.slot i _ e1
    rw [q1] at e2
    cases e2
    rw [hp] at q2
    cases q2
  have g2 := q1.upd (o' := .dK (mergeK [] kvs)) (g.st.free hp) F1p h1p nh no
  refine k _ F1 _ ?_ g2 ⟨p, _, rfl, hp, upd_same, F1p, nh, show ObRep c.K c.hd F1 (.dK _) (.dct _) from RpD_merge rd .nil⟩
  have s2 := (st.wide c.hd).trans s1
  refine ⟨fun b u e ne => by rw [upd_ne (ne_of_none e hp)]; exact s2.ext b u e ne, fun b e n => ?_, s2.mono, s2.sub.uR F1p, s2.old⟩
  rw [upd_ne (fun z => n (by rw [z]; exact hp))]
  exact s2.hdk b e n
end

/-! ### a comprehension -/
def dcGo (tg : DG) (tt : DT) (tk tv : DE) (ρ : Rho) : List PV → List (PV × PV) → HS → Option (List (PV × PV) × HS)
  | [], acc, hs => some (acc, hs)
  | p :: ps, acc, hs => match tg p ρ with
    | none => none
    | some ρ1 => match tt ρ1 hs with
      | none => none
      | some (false, h1) => dcGo tg tt tk tv ρ ps acc h1
      | some (true, h1) => match tk ρ1 h1 with
        | none => none
        | some (x, h2) => match tv ρ1 h2 with
          | none => none
          | some (y, h3) => if isKeyP x = true then dcGo tg tt tk tv ρ ps (putP acc x y) h3 else none
def dDc (vs : List Nat) (it : DI) (tg : DG) (tt : DT) (tk tv : DE) : DE := fun ρ hs => match it ρ hs with
  | none => none
  | some (ps, h1) => if ps.length ≤ sizeLine then (match dcGo tg tt tk tv (wipeR ρ vs) ps [] h1 with
    | none => none
    | some (kvs, h2) => some (.dct kvs, h2)) else none
theorem dc_it {J : It} {n : Nat} {Gd : Hp → Prop} {Y : Nat → Hp → V → Hp → Prop} (w : Walk J n Gd Y) {g : TG} {tt : TT} {tk tv : TE} {vs : List Nat} {σ : L2.St} {H1 : Hp} {D : Addr} {Qd : Hp → Prop} (Pv : Nat → Hp → Prop) (h0 : Pv 0 (upd H1 D (.dK []))) (hG : ∀ i H, i ≤ n → Pv i H → Gd H)
    (hs : ∀ i x H H', i < n → Pv i H → Y i H x H' → g x (wipe σ vs) H' fun σ2 H2 => wipe σ2 vs = wipe σ vs ∧ tt σ2 H2 fun b H3 =>
      if b = true then tk σ2 H3 fun y H4 => tv σ2 H4 fun z H5 => ∃ kvs k, y = kV k ∧ H5 D = some (.dK kvs) ∧ kvs.length < sizeLine ∧ Pv (i + 1) (upd H5 D (.dK (putK kvs k z))) else Pv (i + 1) H3) (hd : ∀ H, Pv n H → Qd H) :
    ∃ W : Nat → Nat → Hp → Prop, (∃ m, W 0 m (upd H1 D (.dK []))) ∧ ∀ i m H, W i m H →
      (J.stop i H ∧ Qd H) ∨ (J.go i H ∧ ∃ Nx : Hp → Prop, (∀ H', Nx H' → ∃ m', m' < m ∧ W (i + 1) m' H') ∧ ∀ x H', J.yld i H x H' → g x (wipe σ vs) H' fun σ2 H2 => wipe σ2 vs = wipe σ vs ∧ tt σ2 H2 fun b H3 =>
        if b = true then tk σ2 H3 fun y H4 => tv σ2 H4 fun z H5 => ∃ kvs k, y = kV k ∧ H5 D = some (.dK kvs) ∧ kvs.length < sizeLine ∧ Nx (upd H5 D (.dK (putK kvs k z))) else Nx H3) := by
  refine ⟨fun i m H => m = n - i ∧ i ≤ n ∧ Pv i H, ⟨n, by simp, Nat.zero_le _, h0⟩, ?_⟩
  intro i m H ⟨em, hi, p⟩
  subst em
  have q := hG i H hi p
  by_cases hlt : i < n
  · refine .inr ⟨w.goes i H hlt q, Pv (i + 1), fun H' p' => ⟨n - (i + 1), by omega, rfl, hlt, p'⟩, fun x H' y => ?_⟩
    exact hs i x H H' hlt p (w.yields i H x H' hlt q y)
  · obtain rfl : i = n := by omega
    exact .inl ⟨w.stops H q, hd H p⟩
section
variable {X : Cx} {c : Fc} {kx vx tg iter : Expr} {ifs : List Expr} {scope : Scope} {own : List (Str × Nat)} {pos : Pos} {di : DI} {dg : DG} {dt : DT} {dk dv : DE} {ws : List Nat}
theorem dc_imp {vs : List Nat} (hw : ∀ j ∈ ws, j ∈ vs) (σ : L2.St) (H : Hp) (Q : VK) (h : tP c .fr (dDc vs di dg dt dk dv) σ H Q) : tDc (tI c false di) (tG c ws dg) (tPT c dt) (tP c .fz dk) (tP c .fz dv) vs σ H Q := by
  obtain ⟨F, ρ, hs, z, hs', g, e, k⟩ := h
  unfold dDc at e
  split at e
  · cases e
  rename_i ps h1 e1
  split at e
  case isFalse => cases e
  rename_i hz
  split at e
  · cases e
  rename_i ys h2 e2
  cases e
  refine ⟨F, ρ, hs, ps, h1, g, e1, fun J F1 H1 s1 g1 it D hD => ?_⟩
  obtain ⟨Gd, Y, w, st, y⟩ := it.ex
  have nD : some D ≠ c.hd := g1.ctx.ne hD
  have h0D : c.H0 D = none := g1.st.free hD
  have noD : ∀ (i : Nat) (q : PV), ρ[i]? = some (some (.own q)) → σ[i]? ≠ some (some (.ref D)) := fun i q e1 e2 => by
    obtain ⟨v, q1, a, o, rfl, q2, _⟩ := g1.slot i _ e1
    rw [q1] at e2
    cases e2
    rw [hD] at q2
    cases q2
  refine dc_it w (fun i H' => ∃ F' hi acc vs', Step c.hd F1 H1 F' H' ∧ G c F' H' σ ρ hi ∧ H' D = some (.dK vs') ∧ F' D = none ∧ RpD c.K c.hd F' vs' acc ∧ vs'.length ≤ i ∧ dcGo dg dt dk dv (wipeR ρ vs) (ps.drop i) acc hi = some (ys, hs'))
    ⟨F1, h1, [], [], Step.new g1.sub hD, (g1.pure (Step.new g1.sub hD)), upd_same, g1.sub.none hD, .nil, Nat.le_refl _, by simpa using e2⟩ (fun i H' _ ⟨F', hi, acc, vs', s2, _⟩ => st H' s2.ext) ?_ ?_
  · intro i x H' H'' hi ⟨F', hsi, acc, vs', s2, g2, d1, d2, d3, d4, d5⟩ hy
    obtain ⟨F'', p, s3, e3, r3⟩ := y i F' H' x H'' s2.mono g2.ctx (fun b o e ne => s2.ext b o e ne) hi hy
    have hdrop : ps.drop i = p :: ps.drop (i + 1) := by
      obtain ⟨q1, q2⟩ := List.getElem?_eq_some_iff.mp e3
      rw [List.drop_eq_getElem_cons q1, q2]
    rw [hdrop] at d5
    unfold dcGo at d5
    split at d5
    · cases d5
    rename_i ρ1 e4
    have g3 : G c F'' H'' σ ρ hsi := g2.pure s3
    have D3 : H'' D = some (.dK vs') := s3.ext D _ d1 (fun z => nomatch z)
    have F3 : F'' D = none := (s3.old D (by rw [d1]; exact fun z => nomatch z)).trans d2
    have s13 : Step c.hd F1 H1 F'' H'' := s2.trans (s3.wide _)
    refine ⟨F'', wipeR ρ vs, hsi, p, ρ1, g3.wipe vs, r3, e4, fun σ2 g4 b4 => ⟨wipe_but b4 hw, ?_⟩⟩
    split at d5
    · cases d5
    · rename_i h3 e5
      refine ⟨F'', ρ1, hsi, false, h3, g4, e5, fun F5 H5 s5 g5 => ?_⟩
      refine iteF ?_
      refine ⟨F5, h3, acc, vs', s13.trans s5, g3.step s5 g5.hand, s5.ext D _ D3 nD, (s5.old D (by rw [D3]; exact fun z => nomatch z)).trans F3, d3.mono (s3.mono.trans s5.mono), by omega, d5⟩
    · rename_i h3 e5
      split at d5
      · cases d5
      rename_i kv h4 e6
      split at d5
      · cases d5
      rename_i yv h5 e7
      split at d5
      case isFalse => cases d5
      rename_i hk
      refine ⟨F'', ρ1, hsi, true, h3, g4, e5, fun F5 H5 s5 g5 => ?_⟩
      refine iteT ?_
      refine ⟨F5, ρ1, h3, kv, h4, g5, e6, fun v1 F6 H6 s6 g6 r6 => ⟨F6, ρ1, h4, yv, h5, g6, e7, fun v2 F7 H7 s7 g7 r7 => ?_⟩⟩
      have s36 := (s5.trans s6).trans s7
      have D6 : H7 D = some (.dK vs') := s36.ext D _ D3 nD
      have F6' : F7 D = none := (s36.old D (by rw [D3]; exact fun z => nomatch z)).trans F3
      have g8 : G c F7 H7 σ ρ h5 := g3.step s36 g7.hand
      obtain ⟨j, rfl, rfl⟩ := r6.bw.key hk
      have hlen : vs'.length < sizeLine := by omega
      refine ⟨vs', j, rfl, D6, hlen, F7, h5, putP acc (keyP j) yv, putK vs' j v2, ?_, g8.upd h0D F6' D6 nD noD, upd_same, F6', (d3.mono (s3.mono.trans s36.mono)).put j r7, by have := length_putK vs' j v2; omega, d5⟩
      have s17 := s13.trans s36
      refine ⟨fun b u e ne => by rw [upd_ne (ne_of_none e hD)]; exact s17.ext b u e ne, fun b e n => ?_, s17.mono, s17.sub.uR F6', s17.old⟩
      rw [upd_ne (fun z => n (by rw [z]; exact hD))]
      exact s17.hdk b e n
  · intro H' ⟨F', hsi, acc, vs', s2, g2, d1, d2, d3, d4, d5⟩
    rw [List.drop_eq_nil_of_le (Nat.le_refl _)] at d5
    cases d5
    have s12 := s1.trans s2
    exact k _ F' H' s12 g2 ⟨D, _, rfl, s1.free hD, d1, d2, nD, show ObRep c.K c.hd F' (.dK _) (.dct _) from d3⟩
theorem p_dc (hc : X.calm = true) (hN : X.N.Nodup) (hi : PIt X c false tg iter di) (ok : BlkOk X.N X.env.scope scope own) (hw : ∀ j ∈ ws, j ∈ own.map (·.2))
    (hg : ∀ (s : Shared) (H : Hp) (C : Addr) (cl : List (Str × Addr)) (fp : List Addr), PG (X.blk s H scope (compEnvC scope cl C X.env) fp) tg (tG c ws dg)) (ht : ∀ (s : Shared) (H : Hp) (C : Addr) (cl : List (Str × Addr)) (fp : List Addr), PTs (X.blk s H scope (compEnvC scope cl C X.env) fp) ifs (tPT c dt))
    (hk : ∀ (s : Shared) (H : Hp) (C : Addr) (cl : List (Str × Addr)) (fp : List Addr), PEp (X.blk s H scope (compEnvC scope cl C X.env) fp) c .fz kx dk)
    (he : ∀ (s : Shared) (H : Hp) (C : Addr) (cl : List (Str × Addr)) (fp : List Addr), PEp (X.blk s H scope (compEnvC scope cl C X.env) fp) c .fz vx dv) (hs : ∀ x, foldedSetIterable iter X.env x = pure x := by intro _; rfl) :
    PEp X c .fr (.DictComp kx vx [⟨tg, iter, ifs, 0⟩] scope pos) (dDc (own.map (·.2)) di dg dt dk dv) := pe_imp (pe_dc hc hN hi ok hg ht hk he hs) (dc_imp hw)
end
end PL

set_option Elab.async false
set_option linter.all false
set_option maxRecDepth 100000
set_option maxHeartbeats 1000000
/-! PL, part l: defs that are called where no repr is under way; repr of data. -/
namespace PL
open PySem PySem.Spec PyProof.Rows L2

/-- like FnOk, but no repr is under way -/
structure FnG (P : Program) (w : World) (K : PySem.W.Frag) (mg : Str → Option Value) (base : Heap) (CX : CXT) (k : Nat) (f : Addr) (fd : FuncData) (ps : List Str) (sp : Sp) : Prop where
  ln : ∀ vs H Q E, sp vs H Q E → vs.length = ps.length
  go : ∀ (A : Around), A.guards = some [] → ∀ (outer : List Env) (s : Shared) (H : Hp) (args : Args) (us : List Value) (vs : List V) (Q : VK) (E : XK), Room k A → Env0 P w K mg base A outer s H →
    BindsTo s fd args (ps.zip us) → Vals vs us → sp vs H Q E → codeAny (model P w) A (.call (.ref f) args) (CR CX outer P w H s Q E) s
section
variable {P : Program} {w : World} {K : PySem.W.Frag} {mg : Str → Option Value} {base : Heap} {CX : CXT} {k : Nat} {f : Addr} {fd : FuncData} {ps : List Str} {sp : Sp}
theorem FnG.of (F : FnOk P w K mg base CX k f fd ps sp) : FnG P w K mg base CX k f fd ps sp := ⟨F.len, fun A _ => F.run A⟩
/-- the def runs, its body walked where no repr is under way -/
theorem FnG.mk' {N : List Str} {x qual : Str} {params : Arguments} {body : List Stmt} {scope : Scope} (F : FunD K x qual params body scope [] [] f fd) (S : FnScope N ps scope) (ln : ∀ vs H Q E, sp vs H Q E → vs.length = ps.length)
    (hb : ∀ (cd : Value) (A : Around) (outer : List Env) (s : Shared) (H : Hp) (vs : List V) (Q : VK) (E : XK), A.guards = some [] → Room k (A.deeper (envOfC qual scope s.heap.objs.size f cd)) → sp vs H Q E →
      ∃ t, PSs (cxOf CX P w K mg base N qual scope f cd A outer s H E) body t ∧ t { nx := fun _ H' => Q .non H', rt := Q } (start N vs) H) : FnG P w K mg base CX (k + 1) f fd ps sp := by
  obtain ⟨oc, od, dV, kV, doc, pm, an, cd, ct, osl, e, lk, hcd, _, _⟩ := F.ex
  subst e
  refine ⟨ln, ?_⟩
  intro A hA outer s H args us vs Q E hr e0 bt rv q
  have kin : K.In s.heap := e0.mod.kin.keeps fun b o z => (e0.bs b o z).1
  have nolim : s.heap.NoLimit := e0.mod.nolimit.keeps fun b o z => (e0.bs b o z).1
  have kinds : ∀ y ∈ ps.zip us, scope.names.lookup y.1 = some .local ∨ (scope.names.lookup y.1 = some .cell ∧ ((cellsFrom (s.heap.objs.size + 1) scope.names []).lookup y.1).isSome = true) := by
    intro ⟨n, v⟩ hy
    exact (S.par n (List.of_mem_zip hy).1).elim .inl fun z => .inr ⟨z, PySem.W.cellsFrom_some _ _ _ (.inl z)⟩
  apply codeAny_call_function hr.depth (kin _ _ lk) rfl S.co S.gen rfl (PySem.W.codeRec_of kin hcd)
  apply bt
  apply wpAny_newFunctionEnv_cells S.kind kinds
  intro env he s1 ic
  subst he
  constructor
  · exact nolim.keeps ic.toInCall.keep
  apply codeAny_func
  obtain ⟨t, ht, hq⟩ := hb cd A outer s H vs Q E hA (hr.deeper _) q
  have I0 := inv_start (CX := CX) (P := P) (w := w) (E := E) S hr.hd e0 (ln _ _ _ _ q) rv ic
  apply wpAny_mono (ht.run [] s1 (start N vs) H _ I0 hq)
  · intro fl s' hs
    cases fl with
    | ret u =>
      obtain ⟨v, σ', H', J, r1, r2⟩ := hs
      exact ⟨v, H', J.os, J.bare, J.base, J.hok, r1, r2⟩
    | next =>
      obtain ⟨σ', H', J, r2⟩ := hs
      exact ⟨V.non, H', J.os, J.bare, J.base, J.hok, rfl, r2⟩
    | brk => exact hs.elim fun _ z => z.elim fun _ z => z.2.elim
    | cont => exact hs.elim fun _ z => z.elim fun _ z => z.2.elim
  · exact fun _ _ z => z
end
section
variable {X : Cx} {c : Fc} {md : Md} {e : Expr} {es : List Expr} {ds : DA} {pos : Pos}
theorem pe_callG {CX : CXT} {k : Nat} {f : Addr} {fd : FuncData} {ps : List Str} {sp : Sp} {E : XK} {x : Str} {p : Pos} {t : TA} (F : FnG X.prog X.w X.K X.mg X.base CX k f fd ps sp) (gd : X.A.guards = some []) (hr : Room k X.A) (hg : Gl X x) (hm : X.mg x = some (.ref f)) (hk : PySem.W.keepIn X.K (.ref f) = true)
    (hb : Binds X.K fd ps []) (hx : Passes CX X E) (ha : PA X (e :: es) t) (hdb : (x == ("__debug__" : Str)) = false := by decide +kernel)
    (he : starEach (e :: es) X.env = (false, eval e X.env) :: starEach es X.env := by rfl) (hpl : (backTo pos (starEach es X.env)).any (·.1) = false := by rfl) : PE X (.Call (.Name x p) (e :: es) [] pos) (tCall sp [] E t) := by
  constructor
  intro pins s σ H Q I h
  apply wpAny_Call_Name_kw (ld_glob I hg hm _ hdb)
  apply PySem.W.callWith_K (h₀ := X.base) I.ok.mod.kin hk _ he hpl
  apply thn (ha.run pos pins s σ H _ I h)
  intro us s1 ⟨vs, H1, I1, r, q⟩
  refine ⟨I1.kIn, ?_⟩
  have q : sp vs H1 Q E := by have z : sp (vs ++ []) H1 Q E := q; rwa [List.append_nil] at z
  show wpAny _ _ (call (Value.ref f) us) _ _ _
  have hl : us.length = ps.length := by rw [← r.length]; exact F.ln _ _ _ _ q
  have bt := hb s1 us I1.kIn (by rw [List.append_nil]; exact hl)
  rw [List.append_nil] at bt
  apply wpAny_call
  apply codeAny_mono (F.go X.A gd X.stack s1 H1 ⟨us, []⟩ us vs Q E hr I1.env0 bt r q)
  intro r s' hq
  match r, hq with
  | .error e, hq => exact hx pins σ H1 s1 e s' I1 hq
  | .ok (.ret u), hq => exact I1.after hq
theorem p_callG {CX : CXT} {k n : Nat} {f : Addr} {fd : FuncData} {ps : List Str} {g : List PV → HS → Option (PV × HS)} {x : Str} {p : Pos} {E : XK} (F : FnG X.prog X.w X.K X.mg X.base CX k f fd ps (spD c.K n md g)) (gd : X.A.guards = some []) (hr : Room k X.A) (hg : Gl X x) (hm : X.mg x = some (.ref f)) (hk : PySem.W.keepIn X.K (.ref f) = true)
    (hb : Binds X.K fd ps []) (hx : Passes CX X E) (ha : PAp X c .fz (e :: es) ds) (hl : ∀ ρ hs xs h1, ds ρ hs = some (xs, h1) → xs.length = n) (hdb : (x == ("__debug__" : Str)) = false := by decide +kernel)
    (he : starEach (e :: es) X.env = (false, eval e X.env) :: starEach es X.env := by rfl) (hpl : (backTo pos (starEach es X.env)).any (·.1) = false := by rfl) : PEp X c md (.Call (.Name x p) (e :: es) [] pos) (dFn g ds) :=
  pe_imp (pe_callG F gd hr hg hm hk hb hx ha hdb he hpl) fun σ H Q ⟨F, ρ, hs, z, hs', gg, e, k⟩ => by
    obtain ⟨xs, h1, e1, e3⟩ := dFn_some e
    refine ⟨F, ρ, hs, xs, h1, gg, e1, fun vs F1 H1 s1 g1 r1 => ?_⟩
    refine ⟨by rw [List.append_nil, r1.length]; exact hl _ _ _ _ e1, F1, c.hd, h1, xs, z, hs', g1.ctx, g1.hand, by rw [List.append_nil]; exact r1.fz, e3, fun v F' H' s h r => ?_⟩
    exact k v F' H' (s1.trans s) (g1.step s h) (r.he fun b => s1.free)
end
theorem fn_G {P : Program} {w : World} {K : PySem.W.Frag} {mg : Str → Option Value} {base : Heap} {N ps : List Str} {k : Nat} {x qual : Str} {params : Arguments} {body : List Stmt} {scope : Scope} {f : Addr} {fd : FuncData} {md : Md} {b : DS} (F : FunD K x qual params body scope [] [] f fd) (S : FnScope N ps scope) (hN : ps.length ≤ N.length) (hm : ∀ K hd He F H, RpM md K hd He F H .non .non ∨ (∀ ρ hs ρ' hs', b ρ hs ≠ some (.nx ρ' hs')))
    (h : ∀ (cdv : Value) (A : Around) (outer : List Env) (s : Shared) (H : Hp) (E : XK) (F : Hp) (hd : Option Addr), A.guards = some [] → Room k (A.deeper (envOfC qual scope s.heap.objs.size f cdv)) →
      PSsp (cxOf CX0 P w K mg base N qual scope f cdv A outer s H E).nox ⟨K, hd, F, H⟩ md body b) : FnG P w K mg base CX0 (k + 1) f fd ps (spD K ps.length md (fnD N.length b)) := by
  refine FnG.mk' F S (fun vs H Q E h => h.1) (fun cdv A outer s H vs Q E hA hr hq => ?_)
  obtain ⟨hl, F0, hd, hs, qs, r, hs', cx, hh, rl, e, kk⟩ := hq
  refine ⟨_, (h cdv A outer s H E F0 hd hA hr).nox, ?_⟩
  have hlen := rl.length
  have g : G ⟨K, hd, F0, H⟩ F0 H (start N vs) (qs.map (fun p => some (SV.val p)) ++ List.replicate (N.length - qs.length) none) hs := by
    refine ⟨Step.refl cx.sub, ?_, fun i s e => ?_, fun i j p q a ne e1 => ?_, hh⟩
    · simp [L2.start]; omega
    · obtain ⟨v, h1, p, rfl, h2⟩ := start_slot (c := ⟨K, hd, F0, H⟩) rfl rfl rl N (by omega) i s e
      exact ⟨v, h1, h2⟩
    · obtain ⟨v, h1, p', e', h2⟩ := start_slot (c := ⟨K, hd, F0, H⟩) rfl rfl rl N (by omega) i _ e1
      cases e'
  unfold fnD at e
  split at e
  · rename_i p h1 e1
    cases e
    exact tPS_mk g e1 fun v F' H' st hd' rr => kk v F' H' st hd' rr
  · rename_i ρ1 h1 e1
    cases e
    refine tPS_mk g e1 fun σ' F' H' sb g' => ?_
    rcases hm K hd H F' H' with q | q
    · exact kk .non F' H' g'.st g'.hand q
    · exact absurd e1 (q _ _ _ _)
  · cases e

/-! ### repr -/
mutual
/-- a bound of the text's length -/
def szP : PV → Nat
  | .non => 8
  | .bl _ => 8
  | .int _ => 602
  | .str x => 10 * x.length + 2
  | .tup xs => szL xs + 3
  | .lst xs => szL xs + 3
  | _ => 0
def szL : List PV → Nat
  | [] => 0
  | x :: xs => szP x + 2 + szL xs
end
mutual
def shwP : PV → Bool
  | .int i => decide (i.natAbs.log2 < 1920)
  | .tup xs => shwL xs
  | .lst xs => shwL xs
  | _ => true
def shwL : List PV → Bool
  | [] => true
  | x :: xs => shwP x && shwL xs
end
theorem int_shown {i : Int} (h : i.natAbs.log2 < 1920) : (PyData.shown (.int i)).length ≤ 602 := by
  have h1 : i.natAbs < 10 ^ 601 := by
    by_cases h0 : i.natAbs = 0
    · rw [h0]; exact Nat.pow_pos (by decide)
    · have h2 := (Nat.log2_lt h0).mp h
      exact Nat.lt_of_lt_of_le h2 (by decide +kernel)
  have e := int_text_length_le10 (k := 601) (by decide) h1
  show (Str.ofString (toString i)).length ≤ 602
  rw [PySem.ofString_length]
  exact e
mutual
theorem shown_len : ∀ (p : PV) (n : Nat), okN n p = true → shwP p = true → (toD p).shown.length ≤ szP p
  | .non, n, _, _ => by show (4 : Nat) ≤ 8; omega
  | .bl b, n, _, _ => by cases b <;> decide +kernel
  | .int i, n, _, h => int_shown (of_decide_eq_true h)
  | .str x, n, o, _ => by
    have o : (x.all (fun n => decide (n < 128))) = true := by simpa [okN] using o
    have := StrLaws.reprText_len ⟨x.toArray⟩ (fun c hc => Nat.lt_trans (of_decide_eq_true (List.all_eq_true.mp o c (by simpa using hc))) (by decide))
    simp only [toD, PyData.shown, szP]
    exact this
  | .tup xs, n, o, h => by
    cases n with
    | zero => simp [okN] at o
    | succ k =>
      have h1 := shown_lens xs k (by simpa [okN] using o) (by simpa [shwP] using h)
      have h2 := tupleText_len_le (PyData.shownAll (toDs xs))
      simp only [toD, PyData.shown, szP]
      omega
  | .lst xs, n, o, h => by
    cases n with
    | zero => simp [okN] at o
    | succ k =>
      have h1 := shown_lens xs k (by simpa [okN] using o) (by simpa [shwP] using h)
      have h2 := listText_len_le (PyData.shownAll (toDs xs))
      simp only [toD, PyData.shown, szP]
      omega
  | .dct _, n, o, _ => by simp [okN] at o
  | .dcT _, n, o, _ => by simp [okN] at o
  | .hand, n, o, _ => by simp [okN] at o
  | .scr _, n, o, _ => by simp [okN] at o
theorem shown_lens : ∀ (ps : List PV) (n : Nat), okNs n ps = true → shwL ps = true → ((PyData.shownAll (toDs ps)).map (·.length)).sum + 2 * (PyData.shownAll (toDs ps)).length ≤ szL ps
  | [], n, _, _ => by simp [toDs, PyData.shownAll, szL]
  | x :: xs, n, o, h => by
    have o : okN n x = true ∧ okNs n xs = true := by simpa [okNs] using o
    have h : shwP x = true ∧ shwL xs = true := by simpa [shwL] using h
    have h1 := shown_len x n o.1 h.1
    have h2 := shown_lens xs n o.2 h.2
    simp only [toDs, PyData.shownAll, szL, List.map_cons, List.sum_cons, List.length_cons]
    omega
end
mutual
theorem shw_ok : ∀ (p : PV), shwP p = true → (toD p).showable = true
  | .non, _ => rfl
  | .bl b, _ => rfl
  | .int i, h => by simpa [toD, PyData.showable, shwP] using h
  | .str x, _ => rfl
  | .tup xs, h => by
    simp only [toD, PyData.showable]
    exact shw_oks xs (by simpa [shwP] using h)
  | .lst xs, h => by
    simp only [toD, PyData.showable]
    exact shw_oks xs (by simpa [shwP] using h)
  | .dct _, _ => rfl
  | .dcT _, _ => rfl
  | .hand, _ => rfl
  | .scr _, _ => rfl
theorem shw_oks : ∀ (ps : List PV), shwL ps = true → PyData.showableAll (toDs ps) = true
  | [], _ => rfl
  | x :: xs, h => by
    have h : shwP x = true ∧ shwL xs = true := by simpa [shwL] using h
    simp only [toDs, PyData.showableAll, shw_ok x h.1, shw_oks xs h.2, Bool.and_self]
end
mutual
theorem nodict : ∀ (p : PV), (toD p).hasDict = false
  | .non => rfl
  | .bl b => rfl
  | .int i => rfl
  | .str x => rfl
  | .tup xs => by simp only [toD, PyData.hasDict]; exact nodicts xs
  | .lst xs => by simp only [toD, PyData.hasDict]; exact nodicts xs
  | .dct _ => rfl
  | .dcT _ => rfl
  | .hand => rfl
  | .scr _ => rfl
theorem nodicts : ∀ (ps : List PV), PyData.hasDictAll (toDs ps) = false
  | [] => rfl
  | x :: xs => by simp only [toDs, PyData.hasDictAll, nodict x, nodicts xs, Bool.or_self]
end
/-- repr of a list or a tuple -/
def isSq : PV → Bool
  | .lst _ => true
  | .tup _ => true
  | _ => false
def reprP : PV → Option PV := fun p => if (isSq p && okN 60 p && shwP p && decide (szP p ≤ sizeLine)) = true then some (.str (toD p).shown.cps.toList) else none
def rRepr (K : PySem.W.Frag) : List V → Hp → VK → Prop := fun xs H Q => ∃ a d, xs = [.ref a] ∧ Dp K H (.ref a) d ∧ d.showable = true ∧ d.hasDict = false ∧ d.depth ≤ 60 ∧ d.shown.length ≤ sizeLine ∧ Q (.str d.shown) H
theorem call_reprD {X : Cx} (hu : X.A.units + 64 < cLine) (hg : X.A.guards = some []) : CallR X (.builtin "repr") (rRepr X.K) := by
  intro pins s σ H xs us Q I r h
  obtain ⟨a, d, rfl, hd, h1, h2, h3, h4, q⟩ := h
  obtain ⟨u, rfl, ru⟩ := vals1 r
  cases ru
  obtain ⟨as, rd⟩ := Dp.reads I d _ _ hd rfl
  refine PySem.repr_of_reads' rd h1 (fun z => absurd z (by rw [h2]; decide)) hg (by omega) (fun b o e => e) (fun h' u tk hk => ?_) h4
  exact ⟨.str d.shown, H, I.kept hk, ⟨_, rfl⟩, q⟩
theorem repr_ok {K : PySem.W.Frag} {hd : Option Addr} : CallOk K hd .fz (un reprP) (rRepr K) := call1 fun F H v p z Q cx rp e k => by
  unfold reprP at e
  split at e
  case isFalse => cases e
  rename_i hh
  cases e
  simp only [Bool.and_eq_true, decide_eq_true_eq] at hh
  obtain ⟨⟨⟨h1, h2⟩, h3⟩, h4⟩ := hh
  have dp := rp.dp cx h2
  obtain ⟨a, rfl⟩ : ∃ a, v = .ref a := by
    cases p with
    | lst xs => obtain ⟨a, vs, e, _⟩ := RpB.lst cx.sub rp; exact ⟨a, e⟩
    | tup xs => obtain ⟨a, vs, e, _⟩ := RpB.tup rp; exact ⟨a, e⟩
    | _ => cases h1
  have hl := shown_len p 60 h2 h3
  have hd := (ok_shape p 60 h2).2
  exact ⟨a, toD p, rfl, dp, shw_ok p h3, nodict p, hd, Nat.le_trans hl h4, k _ F H (Step.refl cx.sub) (.str _)⟩
theorem reprP_eq {p q : PV} (h : p = q) : reprP p = reprP q := by rw [h]
/-- == of two texts, whatever their signs -/
def eqS : PV → PV → Option PV
  | .str x, .str y => some (.bl (x == y))
  | _, _ => none
theorem eqS_b : IsB eqS := fun p q z e => by
  cases p <;> cases q <;> first | (cases e; done) | (cases e; exact ⟨_, rfl⟩)
theorem eqS_ok {K : PySem.W.Frag} {hd : Option Addr} : OpOk K hd .fz eqS rEq := fun F H v w p q z Q cx rp rq e k => by
  cases p <;> cases q <;> try (cases e; done)
  rename_i x y
  cases e
  obtain ⟨a, rfl, rfl⟩ := rp.str
  obtain ⟨b, rfl, rfl⟩ := rq.str
  refine ⟨rfl, ?_⟩
  have e : decide (V.str a = V.str b) = (a.cps.toList == b.cps.toList) := by
    rw [Bool.eq_iff_iff, decide_eq_true_eq, beq_iff_eq]
    constructor
    · intro h
      cases h
      rfl
    · intro h
      have := Array.toList_inj.mp h
      cases a; cases b
      cases this
      rfl
  rw [e]
  exact fin cx k (.bl _)
end PL

set_option Elab.async false
set_option linter.all false
set_option maxRecDepth 100000
set_option maxHeartbeats 1000000
/-! PL, part m: the law's call, where no repr is under way; module constants; the hand. -/
namespace PL
open PySem PySem.Spec PyProof.Rows L2

/-- the law's run from one abstract heap -/
theorem law_runG {P : Program} {w : World} {K : PySem.W.Frag} {mg mb : Str → Option Value} {k : Nat} {fa a : Addr} {fd : FuncData} {x : Str} {sp : Sp} {t : Shared} {vs : List Value}
    (KX : K.In t.heap) (hns : t.heap.Ns mainGlobals mg) (hb : t.heap.Ns builtinsNs mb) (hbb : ∀ x : Str, x ≠ "__name__" → mb x = bootBuiltins x) (lim : t.heap.NoLimit) (gens : t.gens = #[])
    (ha : t.heap.get? a = some { cls := .type "list", data := .seq vs.toArray }) (room : Room k callerA)
    (F : ∀ base : Heap, K.In base → base.Ns mainGlobals mg → FnG P w K mg base CX0 k fa fd [x] sp) (bind : ∀ (s : Shared) (u : Value), BindsTo s fd ⟨[u], []⟩ [(x, u)])
    (H : Hp) (hO : Only H) (hsp : sp [.ref a] H (fun v _ => v = .bl true) fun _ _ _ => False) (ok : HOk P w H t.heap) (only : ∀ b, H b ≠ none → b = a) (nk : H a ≠ none → K.lookup a = none) :
    codeAny (model P w) callerA (.call (.ref fa) ⟨[.ref a], []⟩) (fun r s' => r = .ok (.ret (.bool true)) ∧ OldK t.heap s'.heap ∧ s'.os = t.os ∧ AllBare s'.gens) t := by
  have free : ∀ {b : Addr}, b ≠ a → H b = none := fun {b} ne => Classical.byContradiction fun z => ne (only b z)
  have dictFree : ∀ {b : Addr} {o : Obj} {es : Array DictEntry} {ep : Nat}, t.heap.get? b = some o → o.data = .dict es ep → H b = none := by
    intro b o es ep e d
    apply free
    intro z
    subst z
    rw [ha] at e
    cases e
    exact nomatch (show Data.seq vs.toArray _ = Data.dict es ep from d)
  have ns' : ∀ {b : Addr} {m : Str → Option Value}, t.heap.Ns b m → (hidT t.heap H).Ns b m := by
    intro b m ⟨o, es, ep, e, d, r⟩
    exact ⟨o, es, ep, hidT_get e (dictFree e d), d, r⟩
  have kin : K.In (hidT t.heap H) := by
    intro b o e
    apply hidT_get (KX b o e)
    cases q : H b with
    | none => rfl
    | some u =>
      have z : H b ≠ none := by rw [q]; exact fun z => nomatch z
      have hba := only b z
      subst hba
      exact nomatch e.symm.trans (nk z)
  have md : Mod K mg (hidT t.heap H) := by
    refine ⟨kin, ns' hns, ⟨mb, ns' hb, hbb⟩, ?_⟩
    obtain ⟨mc, z1, z2⟩ := lim
    exact ⟨mc, ns' z1, z2⟩
  have nofs : ∀ b ∈ frs [], H b = none := by
    intro b hb
    cases hb
  have e0 : Env0 P w K mg (hidT t.heap H) callerA [] t H := by
    constructor
    · rfl
    · exact md
    · exact fun b o e => of_hidT e
    · exact Nat.le_of_eq (hidT_size _ _)
    · trivial
    · exact nofs
    · exact ok
    · exact .of_eq gens
  apply codeAny_mono ((F _ kin (ns' hns)).go callerA rfl [] t H ⟨[.ref a], []⟩ [.ref a] [.ref a] _ _ room e0 (bind t (.ref a)) (.cons rfl .nil) hsp)
  intro r s' h
  match r, h with
  | .error e, h => exact False.elim h
  | .ok (.ret u), h =>
    obtain ⟨v, H', os, bare, un, ok', rv, (rfl : v = .bl true)⟩ := h
    obtain rfl : u = Value.bool true := rv
    refine ⟨rfl, OldK.of_keep ?_, os, bare⟩
    intro b o e
    rcases hO b with z | ⟨ob, xs, z⟩
    · exact un.keep b o e z (fun y => nomatch (show b ∈ ([] : List Addr) from y)) (fun y => nomatch y)
    · have z1 := (ok b _ z).1
      rw [e] at z1
      cases z1
      exact (ok' b _ (un.frzs b _ _ z)).1
theorem law_callG {P : Program} {w : World} {K : PySem.W.Frag} {mg mb : Str → Option Value} {k : Nat} {fa a : Addr} {fd : FuncData} {x : Str} {sp : Sp} {t : Shared} {vs : List Value} {ns : List Int}
    (KX : K.In t.heap) (hns : t.heap.Ns mainGlobals mg) (hb : t.heap.Ns builtinsNs mb) (hbb : ∀ x : Str, x ≠ "__name__" → mb x = bootBuiltins x) (lim : t.heap.NoLimit) (gens : t.gens = #[])
    (ha : t.heap.get? a = some { cls := .type "list", data := .seq vs.toArray }) (hi : IntsAre vs ns) (hl : ns.length ≤ sizeLine) (room : Room k callerA)
    (F : ∀ base : Heap, K.In base → base.Ns mainGlobals mg → FnG P w K mg base CX0 k fa fd [x] sp) (bind : ∀ (s : Shared) (u : Value), BindsTo s fd ⟨[u], []⟩ [(x, u)])
    (hsp : ∀ H : Hp, Only H → SqL K H a (ns.map V.int) → sp [.ref a] H (fun v _ => v = .bl true) fun _ _ _ => False) :
    codeAny (model P w) callerA (.call (.ref fa) ⟨[.ref a], []⟩) (fun r s' => r = .ok (.ret (.bool true)) ∧ OldK t.heap s'.heap ∧ s'.os = t.os ∧ AllBare s'.gens) t := by
  have rv := vals_ints hi
  have go := fun H hO hS => law_runG (sp := sp) KX hns hb hbb lim gens ha room F bind H hO (hsp H hO hS)
  by_cases hk : K.lookup a = none
  · let o : HO := .frz { cls := .type "list", data := .seq vs.toArray } (.lst (ns.map V.int))
    have at' : upd (fun _ => none) a o a = some o := upd_same
    have off : ∀ {b : Addr}, b ≠ a → upd (fun _ => none) a o b = none := fun ne => upd_ne ne
    refine go (upd (fun _ => none) a o) (fun b => ?_) (.inl (.inr ⟨_, at'⟩)) (fun b u z => ?_) (fun b z => ?_) fun _ => hk
    · by_cases e : b = a
      · subst e; exact .inr ⟨_, _, at'⟩
      · exact .inl (off e)
    · by_cases e : b = a
      · subst e
        rw [at'] at z
        cases z
        exact ⟨ha, by rw [List.length_map]; exact hl, vs, _, rv, ha⟩
      · rw [off e] at z; cases z
    · exact Classical.byContradiction fun e => z (off e)
  · obtain ⟨o, ho⟩ := Option.ne_none_iff_exists'.mp hk
    have z := KX a o ho
    rw [ha] at z
    cases z
    refine go (fun _ => none) (fun _ => .inl rfl) (.inr ⟨_, vs.toArray, _, ho, rfl, rfl, rfl, ?_, by simpa using rv⟩) (fun b u z => nomatch (show (none : Option HO) = some u from z)) (fun b z => absurd rfl z) fun z => absurd rfl z
    rw [List.size_toArray, hi.length]
    exact hl
theorem walk_ofG {l : PySem.W.OpenLaw} {n k : Nat} {q : Program} {loose : List Str} {XP : (Str → Option Value) → Heap → Prop} {YP : World → Heap → Prop} {d : DefRec} {x : Str}
    (hn : l.most = some n) (hn2 : n ≤ sizeLine) (hdf : d.params.defaults = []) (room : Room k callerA)
    (F : ∀ (w : World) (mg : Str → Option Value) (fa : Addr) (h : Heap), YP w h → h.Ns mainGlobals mg → mg d.name = some (.ref fa) →
      ∃ (K : PySem.W.Frag) (fd : FuncData) (sp : Sp), K.In h ∧ (∀ (s : Shared) (u : Value), BindsTo s fd ⟨[u], []⟩ [(x, u)]) ∧
        (∀ (H : Hp) (a : Addr) (ns : List Int), ns.length ≤ n → Only H → SqL K H a (ns.map V.int) → sp [.ref a] H (fun v _ => v = .bl true) fun _ _ _ => False) ∧
        ∀ base : Heap, K.In base → base.Ns mainGlobals mg → FnG l.prog w K mg base CX0 k fa fd [x] sp) :
    PySem.W.WalkO q loose XP YP l.row.toRowW d [] (fun f vs => PySem.call f vs) := by
  apply Att.attach_call hn hdf
  intro w s₀ t mg mb fa o pm cd doc a vs ns G Y ho hd hcd hmg hobj hints hlen hg
  obtain ⟨K, fd, sp, KX, hb, hsp, hF⟩ := F w mg fa _ Y G.T.g hmg
  exact law_callG KX G.T.g G.T.b G.T.builtins G.T.nolimit hg hobj hints (Nat.le_trans hlen hn2) room hF hb fun H hO hS => hsp H a ns hlen hO hS
end PL

set_option Elab.async false
set_option linter.all false
set_option maxRecDepth 100000
set_option maxHeartbeats 1000000
/-! PL, part n: defs by name; the law's frame. -/
namespace PL
open PySem PySem.Spec PyProof.Rows L2

theorem u65 {k : Nat} {A : Around} (r : Room k A) : A.units + 65 < cLine := by have := r.un; omega
theorem u64 {k : Nat} {A : Around} (r : Room k A) : A.units + 64 < cLine := by have := r.un; omega
theorem u1 {k : Nat} {A : Around} (r : Room k A) : A.units + 1 < cLine := by have := r.un; omega
/-- the def of the name x -/
structure OkD (P : Program) (w : World) (K : PySem.W.Frag) (mg : Str → Option Value) (base : Heap) (x : Str) (k n : Nat) (md : Md) (g : List PV → HS → Option (PV × HS)) : Prop where
  ex : ∃ (f : Addr) (fd : FuncData) (ps : List Str), FnOk P w K mg base CX0 k f fd ps (spD K n md g) ∧ mg x = some (.ref f) ∧ PySem.W.keepIn K (.ref f) = true ∧ Binds K fd ps []
structure OkG (P : Program) (w : World) (K : PySem.W.Frag) (mg : Str → Option Value) (base : Heap) (x : Str) (k n : Nat) (md : Md) (g : List PV → HS → Option (PV × HS)) : Prop where
  ex : ∃ (f : Addr) (fd : FuncData) (ps : List Str), FnG P w K mg base CX0 k f fd ps (spD K n md g) ∧ mg x = some (.ref f) ∧ PySem.W.keepIn K (.ref f) = true ∧ Binds K fd ps []
section
variable {X : Cx} {c : Fc} {md : Md} {e : Expr} {es : List Expr} {ds : DA} {pos p : Pos} {x : Str} {k j n : Nat} {g : List PV → HS → Option (PV × HS)}
theorem p_fn (F : OkD X.prog X.w X.K X.mg X.base x j n md g) (hr : Room k X.A) (hj : j ≤ k) (hg : Gl X x) (hn : (e :: es).length = n) (ha : PAp X c .fz (e :: es) ds) (hl : ∀ ρ hs xs h1, ds ρ hs = some (xs, h1) → xs.length = n) (hdb : (x == ("__debug__" : Str)) = false := by decide +kernel)
    (he : starEach (e :: es) X.env = (false, eval e X.env) :: starEach es X.env := by rfl) (hpl : (backTo pos (starEach es X.env)).any (·.1) = false := by rfl) (hK : X.K = c.K := by rfl) : PEp X c md (.Call (.Name x p) (e :: es) [] pos) (dFn g ds) := by
  obtain ⟨f, fd, ps, F, gm, kp, bd⟩ := F.ex
  rw [hK] at F
  exact p_call (by rw [hK]; exact F) (hr.mono hj) hg gm kp bd (pass0 (X := X)) hn ha hl hdb he hpl
theorem p_fnG (F : OkG X.prog X.w X.K X.mg X.base x j n md g) (gd : X.A.guards = some []) (hr : Room k X.A) (hj : j ≤ k) (hg : Gl X x) (ha : PAp X c .fz (e :: es) ds) (hl : ∀ ρ hs xs h1, ds ρ hs = some (xs, h1) → xs.length = n) (hdb : (x == ("__debug__" : Str)) = false := by decide +kernel)
    (he : starEach (e :: es) X.env = (false, eval e X.env) :: starEach es X.env := by rfl) (hpl : (backTo pos (starEach es X.env)).any (·.1) = false := by rfl) (hK : X.K = c.K := by rfl) : PEp X c md (.Call (.Name x p) (e :: es) [] pos) (dFn g ds) := by
  obtain ⟨f, fd, ps, F, gm, kp, bd⟩ := F.ex
  rw [hK] at F
  exact p_callG (by rw [hK]; exact F) gd (hr.mono hj) hg gm kp bd (pass0 (X := X)) ha hl hdb he hpl
end

/-! ### the law's own frame: the hand is made first -/
section
variable {K : PySem.W.Frag} {hd : Option Addr} {F : Hp}
mutual
theorem Rp.hdw : ∀ {v : V} {p : PV}, Rp K none F v p → Rp K hd F v p
  | _, _, .non => .non
  | _, _, .bl b => .bl b
  | _, _, .int i => .int i
  | _, _, .str x => .str x
  | _, _, .tup h l => .tup h (RpL.hdw l)
  | _, _, .lst h l => .lst h (RpL.hdw l)
  | _, _, .dct h l => .dct h (RpD.hdw l)
  | _, _, .dctT h l => .dctT h (RpT.hdw l)
  | _, _, .hand h => nomatch h
  | _, _, .scr h => .scr h
theorem RpL.hdw : ∀ {vs : List V} {ps : List PV}, RpL K none F vs ps → RpL K hd F vs ps
  | _, _, .nil => .nil
  | _, _, .cons a b => .cons (Rp.hdw a) (RpL.hdw b)
theorem RpD.hdw : ∀ {vs : List (Key × V)} {ps : List (PV × PV)}, RpD K none F vs ps → RpD K hd F vs ps
  | _, _, .nil => .nil
  | _, _, .cons a b => .cons (Rp.hdw a) (RpD.hdw b)
theorem RpT.hdw : ∀ {vs : List (List Key × V)} {ps : List (PV × PV)}, RpT K none F vs ps → RpT K hd F vs ps
  | _, _, .nil => .nil
  | _, _, .cons a b => .cons (Rp.hdw a) (RpT.hdw b)
end
end
theorem pss_any {X : Cx} {α : Type} {st : List Stmt} {t : α → TS} (h : ∀ q, PSs X st (t q)) : PSs X st (fun D σ H => ∃ q, t q D σ H) := ⟨fun pins s σ H D I ⟨q, hw⟩ => (h q).run pins s σ H D I hw⟩
/-- the law's promise -/
def spLaw (K : PySem.W.Frag) (n : Nat) : Sp := fun vs H Q _ => ∃ (a : Addr) (ns : List Int), vs = [.ref a] ∧ ns.length ≤ n ∧ SqL K H a (ns.map V.int) ∧ ∀ H', Q (.bl true) H'
theorem fn_law {P : Program} {w : World} {K : PySem.W.Frag} {mg : Str → Option Value} {base : Heap} {N : List Str} {k m : Nat} {x qual y : Str} {params : Arguments} {s1 : Stmt} {rest body : List Stmt} {scope : Scope} {f : Addr} {fd : FuncData} {d1 b : DS} (F : FunD K x qual params body scope [] [] f fd) (eb : body = s1 :: rest) (S : FnScope N [y] scope) (hN : 2 ≤ N.length)
    (h1 : ∀ (cdv : Value) (A : Around) (outer : List Env) (s : Shared) (H : Hp) (E : XK), A.guards = some [] → Room k (A.deeper (envOfC qual scope s.heap.objs.size f cdv)) → ∀ (F : Hp) (hd : Option Addr),
      PSp (cxOf CX0 P w K mg base N qual scope f cdv A outer s H E).nox ⟨K, hd, F, H⟩ .fz s1 d1)
    (h2 : ∀ (cdv : Value) (A : Around) (outer : List Env) (s : Shared) (H : Hp) (E : XK), A.guards = some [] → Room k (A.deeper (envOfC qual scope s.heap.objs.size f cdv)) → ∀ (F : Hp) (hd : Option Addr) (H' : Hp),
      PSsp (cxOf CX0 P w K mg base N qual scope f cdv A outer s H E).nox ⟨K, hd, F, H'⟩ .fz rest b)
    (law : ∀ ns : List Int, ns.length ≤ m → ∃ xs h1 h2, d1 (some (.val (.scr ns)) :: List.replicate (N.length - 1) none) [] = some (.nx (some (.val (.scr ns)) :: some (.own (.lst xs)) :: List.replicate (N.length - 2) none) h1) ∧
      b (some (.val (.scr ns)) :: some (.val .hand) :: List.replicate (N.length - 2) none) xs = some (.ret (.bl true) h2)) : FnG P w K mg base CX0 (k + 1) f fd [y] (spLaw K m) := by
  subst eb
  refine FnG.mk' F S (fun vs H Q E ⟨a, ns, e, _⟩ => by rw [e]; rfl) (fun cdv A outer s H vs Q E hA hr hq => ?_)
  obtain ⟨a, ns, rfl, hl, hS, hQ⟩ := hq
  refine ⟨_, (pss_cons (h1 cdv A outer s H E hA hr H none) (pss_any fun q : Hp × Option Addr × Hp => h2 cdv A outer s H E hA hr q.1 q.2.1 q.2.2)).nox, ?_⟩
  obtain ⟨xs, g1, g2, e1, e2⟩ := law ns hl
  have g : G ⟨K, none, H, H⟩ H H (start N [.ref a]) (some (.val (.scr ns)) :: List.replicate (N.length - 1) none) [] := by
    refine ⟨Step.refl (Sub.refl H), ?_, fun i s e => ?_, fun i j p q a ne e1 => ?_, fun h e => nomatch e⟩
    · simp [L2.start]
    · cases i with
      | zero =>
        cases e
        exact ⟨.ref a, by simp [L2.start], .scr hS⟩
      | succ i =>
        simp only [List.getElem?_cons_succ] at e
        obtain ⟨q1, q2⟩ := List.getElem?_eq_some_iff.mp e
        rw [List.getElem_replicate] at q2
        cases q2
    · cases i with
      | zero => cases e1
      | succ i =>
        simp only [List.getElem?_cons_succ] at e1
        obtain ⟨q1, q2⟩ := List.getElem?_eq_some_iff.mp e1
        rw [List.getElem_replicate] at q2
        cases q2
  refine tPS_mk g e1 fun σ' F' H' sb g' => ?_
  obtain ⟨v, w1, b', o, rfl, w2, w3, w4, w5, w6⟩ := g'.slot 1 (.own (.lst xs)) rfl
  obtain ⟨vs', rfl, w7⟩ := w6.lst_inv
  refine ⟨⟨F', some b', H'⟩, ?_⟩
  have gg : G ⟨K, some b', F', H'⟩ F' H' σ' (some (.val (.scr ns)) :: some (.val .hand) :: List.replicate (N.length - 2) none) xs := by
    refine ⟨Step.refl g'.sub, ?_, fun i s e => ?_, fun i j p q a ne e1 => ?_, fun h e => ?_⟩
    · have := g'.len; simp at this ⊢; omega
    · match i, e with
      | 0, e =>
        cases e
        obtain ⟨v, z1, z2⟩ := g'.slot 0 (.val (.scr ns)) rfl
        exact ⟨v, z1, Rp.hdw z2⟩
      | 1, e =>
        cases e
        exact ⟨.ref b', w1, .hand rfl⟩
      | i + 2, e =>
        simp only [List.getElem?_cons_succ] at e
        obtain ⟨q1, q2⟩ := List.getElem?_eq_some_iff.mp e
        rw [List.getElem_replicate] at q2
        cases q2
    · match i, e1 with
      | 0, e1 => cases e1
      | 1, e1 => cases e1
      | i + 2, e1 =>
        simp only [List.getElem?_cons_succ] at e1
        obtain ⟨q1, q2⟩ := List.getElem?_eq_some_iff.mp e1
        rw [List.getElem_replicate] at q2
        cases q2
    · cases e
      exact ⟨vs', w2, w3, RpL.hdw w7⟩
  refine tPS_mk gg e2 fun v F2 H2 st hh rr => ?_
  have : v = .bl true := RpB.bl (H := H2) (.inl rr)
  subst this
  exact hQ H2
/-- a block that never runs off its end -/
def NoNx (d : DS) : Prop := ∀ ρ hs ρ' hs', d ρ hs ≠ some (.nx ρ' hs')
theorem nn_ret {d : DE} : NoNx (dsRet d) := fun ρ hs ρ' hs' e => by
  unfold dsRet at e
  split at e <;> cases e
theorem nn_never : NoNx dsNever := fun ρ hs ρ' hs' e => by cases e
theorem nn_seq {d1 d2 : DS} (h : NoNx d2) : NoNx (dsSeq d1 d2) := fun ρ hs ρ' hs' e => by
  unfold dsSeq at e
  split at e
  · exact h _ _ _ _ e
  · rename_i hn
    exact hn _ _ e
theorem nn_frz {d : DS} {i : Nat} (h : NoNx d) : NoNx (dsFrz i d) := fun ρ hs ρ' hs' e => h _ _ _ _ e
end PL

set_option Elab.async false
set_option linter.all false
set_option maxRecDepth 100000
set_option maxHeartbeats 1000000
/-! PM, part b: how denotations run, rule by rule. -/
namespace PL
open PySem PySem.Spec PyProof.Rows L2
section
variable {a b c e : DE} {t u : DT} {ds : DA} {s1 s2 : DS} {it : DI} {l h : DO} {r : DPs} {ρ ρ1 ρ2 : Rho} {hs h1 h2 h3 : HS} {x y z p q : PV} {xs ps : List PV} {op op' : PV → PV → Option PV} {i j n : Nat} {bb : Bool} {o : Out} {tg : DG}
theorem vC : dC p ρ hs = some (p, hs) := rfl
theorem vV (e : ρ[i]? = some (some (.val p))) : dV i ρ hs = some (p, hs) := by unfold dV; rw [e]
theorem vO (e : ρ[i]? = some (some (.own p))) : dO i ρ hs = some (p, hs) := by unfold dO; rw [e]
theorem vBin (ha : a ρ hs = some (x, h1)) (hb : b ρ h1 = some (y, h2)) (ho : op x y = some z) : dBin op a b ρ hs = some (z, h2) := by unfold dBin; rw [ha]; dsimp only; rw [hb]; dsimp only; rw [ho]
theorem vUn {op : PV → Option PV} (ha : a ρ hs = some (x, h1)) (ho : op x = some z) : dUn op a ρ hs = some (z, h1) := by unfold dUn; rw [ha]; dsimp only; rw [ho]
theorem vNil : dNil ρ hs = some ([], hs) := rfl
theorem vCons (ha : a ρ hs = some (x, h1)) (hb : ds ρ h1 = some (xs, h2)) : dCons a ds ρ hs = some (x :: xs, h2) := by unfold dCons; rw [ha]; dsimp only; rw [hb]
theorem vCall {op : List PV → Option PV} (ha : ds ρ hs = some (xs, h1)) (ho : op xs = some z) : dCall op ds ρ hs = some (z, h1) := by unfold dCall; rw [ha]; dsimp only; rw [ho]
theorem vFn {f : List PV → HS → Option (PV × HS)} (ha : ds ρ hs = some (xs, h1)) (ho : f xs h1 = some (z, h2)) : dFn f ds ρ hs = some (z, h2) := by unfold dFn; rw [ha]; exact ho
theorem vMth {op : PV → List PV → Option PV} (ha : a ρ hs = some (x, h1)) (hb : ds ρ h1 = some (xs, h2)) (ho : op x xs = some z) : dMth op a ds ρ hs = some (z, h2) := by unfold dMth; rw [ha]; dsimp only; rw [hb]; dsimp only; rw [ho]
theorem vTru (ha : a ρ hs = some (x, h1)) (ho : truP x = some bb) : dTru a ρ hs = some (bb, h1) := by unfold dTru; rw [ha]; dsimp only; rw [ho]
theorem vbl (ha : a ρ hs = some (.bl bb, h1)) : blOnly a ρ hs = some (bb, h1) := by unfold blOnly; rw [ha]
theorem vNot (ha : t ρ hs = some (bb, h1)) : dNot t ρ hs = some (!bb, h1) := by unfold dNot; rw [ha]
theorem vNotT (ha : t ρ hs = some (true, h1)) : dNot t ρ hs = some (false, h1) := by unfold dNot; rw [ha]; rfl
theorem vNotF (ha : t ρ hs = some (false, h1)) : dNot t ρ hs = some (true, h1) := by unfold dNot; rw [ha]; rfl
theorem vAndT {o : Option (Bool × HS)} (ha : t ρ hs = some (true, h1)) (hb : u ρ h1 = o) : dAnd t u ρ hs = o := by unfold dAnd; rw [ha]; exact hb
theorem vAndF (ha : t ρ hs = some (false, h1)) : dAnd t u ρ hs = some (false, h1) := by unfold dAnd; rw [ha]
theorem vOrT (ha : t ρ hs = some (true, h1)) : dOr t u ρ hs = some (true, h1) := by unfold dOr; rw [ha]
theorem vOrF {o : Option (Bool × HS)} (ha : t ρ hs = some (false, h1)) (hb : u ρ h1 = o) : dOr t u ρ hs = o := by unfold dOr; rw [ha]; exact hb
theorem vTV (ha : t ρ hs = some (bb, h1)) : dTV t ρ hs = some (.bl bb, h1) := by unfold dTV; rw [ha]
theorem vIfT {o : Option (PV × HS)} (ha : t ρ hs = some (true, h1)) (hb : a ρ h1 = o) : dIf t a b ρ hs = o := by unfold dIf; rw [ha]; exact hb
theorem vIfF {o : Option (PV × HS)} (ha : t ρ hs = some (false, h1)) (hb : b ρ h1 = o) : dIf t a b ρ hs = o := by unfold dIf; rw [ha]; exact hb
theorem vIfB {o : Option (PV × HS)} (ha : t ρ hs = some (bb, h1)) (hb : (if bb = true then a ρ h1 else b ρ h1) = o) : dIf t a b ρ hs = o := by
  cases bb
  · exact vIfF ha hb
  · exact vIfT ha hb
theorem vChT (ha : a ρ hs = some (x, h1)) (hb : b ρ h1 = some (y, h2)) (ho : op x y = some (.bl true)) (hc : c ρ h2 = some (z, h3)) (ho' : op' y z = some p) : dChain op op' a b c ρ hs = some (p, h3) := by unfold dChain; rw [ha]; dsimp only; rw [hb]; dsimp only; rw [ho]; dsimp only; rw [hc]; dsimp only; rw [ho']
theorem vChF (ha : a ρ hs = some (x, h1)) (hb : b ρ h1 = some (y, h2)) (ho : op x y = some (.bl false)) : dChain op op' a b c ρ hs = some (.bl false, h2) := by unfold dChain; rw [ha]; dsimp only; rw [hb]; dsimp only; rw [ho]
theorem vTup (ha : ds ρ hs = some (xs, h1)) (hl : xs.length ≤ sizeLine) : dTup ds ρ hs = some (.tup xs, h1) := vCall ha (if_pos hl)
theorem vLst (ha : ds ρ hs = some (xs, h1)) (hl : xs.length ≤ sizeLine) : dLst ds ρ hs = some (.lst xs, h1) := vCall ha (if_pos hl)
theorem vNo : dNo ρ hs = some (none, hs) := rfl
theorem vSo {k : Int} (ha : a ρ hs = some (.int k, h1)) : dSo a ρ hs = some (some k, h1) := by unfold dSo; rw [ha]
theorem vSl {op : PV → Option Int → Option Int → Option PV} {lo hi : Option Int} (ha : a ρ hs = some (x, h1)) (hl : l ρ h1 = some (lo, h2)) (hh : h ρ h2 = some (hi, h3)) (ho : op x lo hi = some z) : dSl op a l h ρ hs = some (z, h3) := by unfold dSl; rw [ha]; dsimp only; rw [hl]; dsimp only; rw [hh]; dsimp only; rw [ho]
theorem vIt (ha : a ρ hs = some (x, h1)) (ho : itsP x = some ps) : dIt a ρ hs = some (ps, h1) := by unfold dIt; rw [ha]; dsimp only; rw [ho]
theorem vItA {op : List PV → Option (List PV)} (ha : ds ρ hs = some (xs, h1)) (ho : op xs = some ps) : dItA op ds ρ hs = some (ps, h1) := by unfold dItA; rw [ha]; dsimp only; rw [ho]
theorem vHx (e : ρ[j]? = some (some (.val .hand))) (e2 : hs[i]? = some p) : dHx j i ρ hs = some (p, hs) := by unfold dHx; rw [e]; dsimp only; rw [e2]
theorem vLc {vs : List Nat} (hi : it ρ hs = some (ps, h1)) (hl : ps.length ≤ sizeLine) (hg : lcGo tg t e (wipeR ρ vs) ps h1 = some (xs, h2)) : dLc vs it tg t e ρ hs = some (.lst xs, h2) := by unfold dLc; rw [hi]; dsimp only; rw [if_pos hl, hg]
theorem vYes : dYes ρ hs = some (true, hs) := rfl

/-! statements -/
theorem xSkip : dsSkip ρ hs = some (.nx ρ hs) := rfl
theorem xSeq {o : Option Out} (ha : s1 ρ hs = some (.nx ρ1 h1)) (hb : s2 ρ1 h1 = o) : dsSeq s1 s2 ρ hs = o := by unfold dsSeq; rw [ha]; exact hb
theorem xSeqR (ha : s1 ρ hs = some (.ret p h1)) : dsSeq s1 s2 ρ hs = some (.ret p h1) := by unfold dsSeq; rw [ha]
theorem xSet {mk : PV → SV} (ha : a ρ hs = some (p, h1)) : dsSet mk i a ρ hs = some (.nx (ρ.set i (some (mk p))) h1) := by unfold dsSet; rw [ha]
theorem xRet (ha : a ρ hs = some (p, h1)) : dsRet a ρ hs = some (.ret p h1) := by unfold dsRet; rw [ha]
theorem xIfT {o : Option Out} (ha : t ρ hs = some (true, h1)) (hb : s1 ρ h1 = o) : dsIf t s1 s2 ρ hs = o := by unfold dsIf; rw [ha]; exact hb
theorem xIfF {o : Option Out} (ha : t ρ hs = some (false, h1)) (hb : s2 ρ h1 = o) : dsIf t s1 s2 ρ hs = o := by unfold dsIf; rw [ha]; exact hb
theorem xIfB {o : Option Out} (ha : t ρ hs = some (bb, h1)) (hb : (if bb = true then s1 ρ h1 else s2 ρ h1) = o) : dsIf t s1 s2 ρ hs = o := by
  cases bb
  · exact xIfF ha hb
  · exact xIfT ha hb
theorem xDrop (ha : a ρ hs = some (p, h1)) : dsDrop a ρ hs = some (.nx ρ h1) := by unfold dsDrop; rw [ha]
theorem xFor {o : Option Out} (hi : it ρ hs = some (ps, h1)) (hg : forGo tg s1 ps ρ h1 = o) : dsFor tg it s1 ρ hs = o := by unfold dsFor; rw [hi]; exact hg
theorem xFrz {o : Option Out} (e : ρ[i]? = some (some (.own p))) (hb : s1 (ρ.set i (some (.val p))) hs = o) : dsFrz i s1 ρ hs = o := by unfold dsFrz frzAt; rw [e]; exact hb
theorem xMut {op : PV → List PV → Option PV} (ha : ds ρ hs = some (ps, h1)) (e : ρ[i]? = some (some (.own p))) (ho : op p ps = some q) : dsMut i op ds ρ hs = some (.nx (ρ.set i (some (.own q))) h1) := by unfold dsMut; rw [ha]; dsimp only; rw [e]; dsimp only; rw [ho]
theorem xIx (hv : b ρ hs = some (y, h1)) (hk : a ρ h1 = some (x, h2)) (e : ρ[i]? = some (some (.own p))) (ho : setAt p x y = some q) : dsIx i a b ρ hs = some (.nx (ρ.set i (some (.own q))) h2) := by unfold dsIx; rw [hv]; dsimp only; rw [hk]; dsimp only; rw [e]; dsimp only; rw [ho]
theorem xDp (hv : b ρ hs = some (y, h1)) (hk : a ρ h1 = some (x, h2)) (e : ρ[i]? = some (some (.own p))) (ho : dpP p x y = some q) : dsDp i a b ρ hs = some (.nx (ρ.set i (some (.own q))) h2) := by unfold dsDp; rw [hv]; dsimp only; rw [hk]; dsimp only; rw [e]; dsimp only; rw [ho]
theorem xAugIx {w : PV} (hk : a ρ hs = some (x, h1)) (e : ρ[i]? = some (some (.own p))) (hx : ixP p x = some y) (hv : b ρ h1 = some (z, h2)) (ho : op y z = some w) (hst : setAt p x w = some q) : dsAugIx op i a b ρ hs = some (.nx (ρ.set i (some (.own q))) h2) := by unfold dsAugIx; rw [hk]; dsimp only; rw [e]; dsimp only; rw [hx]; dsimp only; rw [hv]; dsimp only; rw [ho]; dsimp only; rw [hst]
theorem xAug (e : ρ[i]? = some (some (.val x))) (ha : a ρ hs = some (y, h1)) (ho : op x y = some z) : dsAug op i a ρ hs = some (.nx (ρ.set i (some (.val z))) h1) := by unfold dsAug; rw [e]; dsimp only; rw [ha]; dsimp only; rw [ho]
theorem xPar {m1 m2 : PV → SV} (ha : a ρ hs = some (x, h1)) (hb : b ρ h1 = some (y, h2)) : dsPar m1 m2 i j a b ρ hs = some (.nx ((ρ.set i (some (m1 x))).set j (some (m2 y))) h2) := by unfold dsPar; rw [ha]; dsimp only; rw [hb]
theorem xH (ha : a ρ hs = some (y, h1)) (e : ρ[j]? = some (some (.val .hand))) (hl : i < h1.length) : dsH j i a ρ hs = some (.nx ρ (h1.set i y)) := by unfold dsH; rw [ha]; dsimp only; rw [e]; dsimp only; rw [if_pos hl]
theorem dRet {b : DS} (hb : b (ps.map (fun p => some (.val p)) ++ List.replicate (n - ps.length) none) hs = some (.ret p h1)) : fnD n b ps hs = some (p, h1) := by unfold fnD; rw [hb]
theorem dNx {b : DS} (hb : b (ps.map (fun p => some (.val p)) ++ List.replicate (n - ps.length) none) hs = some (.nx ρ h1)) : fnD n b ps hs = some (.non, h1) := by unfold fnD; rw [hb]

/-! loops -/
theorem fNil : forGo tg s1 [] ρ hs = some (.nx ρ hs) := rfl
theorem fNx {o : Option Out} (ht : tg p ρ = some ρ1) (hb : s1 ρ1 hs = some (.nx ρ2 h1)) (hr : forGo tg s1 ps ρ2 h1 = o) : forGo tg s1 (p :: ps) ρ hs = o := by unfold forGo; rw [ht]; dsimp only; rw [hb]; exact hr
theorem fRet (ht : tg p ρ = some ρ1) (hb : s1 ρ1 hs = some (.ret q h1)) : forGo tg s1 (p :: ps) ρ hs = some (.ret q h1) := by unfold forGo; rw [ht]; dsimp only; rw [hb]
theorem dcNx {tk tv : DE} {acc : List (PV × PV)} (ht : tg p ρ = some ρ1) (htt : t ρ1 hs = some (true, h1)) (hk : tk ρ1 h1 = some (x, h2)) (hv : tv ρ1 h2 = some (y, h3)) (hx : isKeyP x = true) : dcGo tg t tk tv ρ (p :: ps) acc hs = dcGo tg t tk tv ρ ps (putP acc x y) h3 := by
  conv => lhs; unfold dcGo
  rw [ht]; dsimp only; rw [htt]; dsimp only; rw [hk]; dsimp only; rw [hv]; dsimp only; rw [if_pos hx]
/-- a loop that runs through, the hand kept -/
theorem for_rel {α β : Type} (enc : α → PV) (P : β → Rho → Prop) (step : β → α → β) : ∀ (as : List α) (s : β) (ρ : Rho), P s ρ →
    (∀ s a ρ, a ∈ as → P s ρ → ∃ ρ1 ρ2, tg (enc a) ρ = some ρ1 ∧ s1 ρ1 hs = some (.nx ρ2 hs) ∧ P (step s a) ρ2) → ∃ ρ', forGo tg s1 (as.map enc) ρ hs = some (.nx ρ' hs) ∧ P (as.foldl step s) ρ'
  | [], s, ρ, h0, _ => ⟨ρ, rfl, h0⟩
  | a :: as, s, ρ, h0, h => by
    obtain ⟨ρ1, ρ2, e1, e2, h2⟩ := h s a ρ (List.mem_cons_self ..) h0
    obtain ⟨ρ', e3, h3⟩ := for_rel enc P step as (step s a) ρ2 h2 (fun s a' ρ m => h s a' ρ (List.mem_cons_of_mem _ m))
    exact ⟨ρ', fNx e1 e2 e3, h3⟩
/-- .. with the hand -/
theorem for_relH {α β : Type} (enc : α → PV) (P : β → Rho → HS → Prop) (step : β → α → β) : ∀ (as : List α) (s : β) (ρ : Rho) (hs : HS), P s ρ hs →
    (∀ s a ρ hs, a ∈ as → P s ρ hs → ∃ ρ1 ρ2 h2, tg (enc a) ρ = some ρ1 ∧ s1 ρ1 hs = some (.nx ρ2 h2) ∧ P (step s a) ρ2 h2) → ∃ ρ' h', forGo tg s1 (as.map enc) ρ hs = some (.nx ρ' h') ∧ P (as.foldl step s) ρ' h'
  | [], s, ρ, hs, h0, _ => ⟨ρ, hs, rfl, h0⟩
  | a :: as, s, ρ, hs, h0, h => by
    obtain ⟨ρ1, ρ2, h2, e1, e2, q2⟩ := h s a ρ hs (List.mem_cons_self ..) h0
    obtain ⟨ρ', h', e3, q3⟩ := for_relH enc P step as (step s a) ρ2 h2 q2 (fun s a' ρ hs m => h s a' ρ hs (List.mem_cons_of_mem _ m))
    exact ⟨ρ', h', fNx e1 e2 e3, q3⟩
/-- by places -/
theorem for_ix (P : Nat → Rho → Prop) : ∀ (as : List PV) (j : Nat) (ρ : Rho), P j ρ → (∀ k a ρ, as[k]? = some a → P (j + k) ρ → ∃ ρ1 ρ2, tg a ρ = some ρ1 ∧ s1 ρ1 hs = some (.nx ρ2 hs) ∧ P (j + k + 1) ρ2) →
    ∃ ρ', forGo tg s1 as ρ hs = some (.nx ρ' hs) ∧ P (j + as.length) ρ'
  | [], j, ρ, h0, _ => ⟨ρ, rfl, h0⟩
  | a :: as, j, ρ, h0, h => by
    obtain ⟨ρ1, ρ2, e1, e2, q2⟩ := h 0 a ρ rfl h0
    obtain ⟨ρ', e3, q3⟩ := for_ix P as (j + 1) ρ2 q2 (fun k a' ρ m q => by
      have := h (k + 1) a' ρ (by simpa using m) (by rw [show j + (k + 1) = j + 1 + k by omega]; exact q)
      rw [show j + (k + 1) + 1 = j + 1 + k + 1 by omega] at this
      exact this)
    refine ⟨ρ', fNx e1 e2 e3, ?_⟩
    rw [show j + (a :: as).length = j + 1 + as.length by simp; omega]
    exact q3
theorem for_range (n : Nat) (P : Nat → Rho → Prop) (h0 : P 0 ρ) (h : ∀ k ρ, k < n → P k ρ → ∃ ρ1 ρ2, tg (.int (k : Int)) ρ = some ρ1 ∧ s1 ρ1 hs = some (.nx ρ2 hs) ∧ P (k + 1) ρ2) :
    ∃ ρ', forGo tg s1 ((List.range n).map fun (i : Nat) => PV.int i) ρ hs = some (.nx ρ' hs) ∧ P n ρ' := by
  have := for_ix (tg := tg) (s1 := s1) (hs := hs) P ((List.range n).map fun (i : Nat) => PV.int i) 0 ρ h0 (fun k a ρ m q => by
    rw [List.getElem?_map] at m
    obtain ⟨k', m1, m2⟩ := Option.map_eq_some_iff.mp m
    obtain ⟨m3, m4⟩ := List.getElem?_eq_some_iff.mp m1
    rw [List.length_range] at m3
    rw [List.getElem_range] at m4
    subst m4
    subst m2
    rw [Nat.zero_add] at q ⊢
    exact h k ρ m3 q)
  simpa using this
/-- a comprehension -/
theorem lc_rel {α : Type} (enc : α → PV) (tt : α → Bool) (f : α → PV) : ∀ (as : List α), (∀ a ∈ as, ∃ ρ1, tg (enc a) ρ = some ρ1 ∧ t ρ1 hs = some (tt a, hs) ∧ (tt a = true → e ρ1 hs = some (f a, hs))) →
    lcGo tg t e ρ (as.map enc) hs = some ((as.filter tt).map f, hs)
  | [], _ => rfl
  | a :: as, h => by
    obtain ⟨ρ1, e1, e2, e3⟩ := h a (List.mem_cons_self ..)
    have ih := lc_rel enc tt f as (fun a m => h a (List.mem_cons_of_mem _ m))
    rw [List.map_cons]
    unfold lcGo
    rw [e1]
    dsimp only
    rw [e2]
    cases q : tt a with
    | false =>
      dsimp only
      rw [ih, List.filter_cons_of_neg (by rw [q]; decide)]
    | true =>
      dsimp only
      rw [e3 q]
      dsimp only
      rw [ih, List.filter_cons_of_pos q]
      rfl
theorem lc_all {α : Type} (enc f : α → PV) (as : List α) (h : ∀ a ∈ as, ∃ ρ1, tg (enc a) ρ = some ρ1 ∧ t ρ1 hs = some (true, hs) ∧ e ρ1 hs = some (f a, hs)) :
    lcGo tg t e ρ (as.map enc) hs = some (as.map f, hs) := by
  have := lc_rel (tg := tg) (t := t) (e := e) (ρ := ρ) (hs := hs) enc (fun _ => true) f as (fun a m => by
    obtain ⟨ρ1, e1, e2, e3⟩ := h a m
    exact ⟨ρ1, e1, e2, fun _ => e3⟩)
  rw [this, List.filter_eq_self.mpr (fun _ _ => rfl)]
end

/-! the operators at plain values -/
theorem szl : sizeLine = 16777216 := by decide +kernel
theorem cut_from {α : Type} (x : List α) (k : Nat) : cutP x (some (k : Int)) none = x.drop k := by
  unfold cutP
  rw [HT.sIx_nat, HT.sIx_none]
  by_cases h : k ≤ x.length
  · rw [Nat.min_eq_left h]
    exact List.take_of_length_le (by simp)
  · rw [Nat.min_eq_right (by omega), List.drop_eq_nil_of_le (Nat.le_refl _), List.drop_eq_nil_of_le (by omega), List.take_nil]
theorem cut_to {α : Type} (x : List α) (k : Nat) : cutP x none (some (k : Int)) = x.take k := by
  unfold cutP
  rw [HT.sIx_nat, HT.sIx_none, List.drop_zero, Nat.sub_zero]
  by_cases h : k ≤ x.length
  · rw [Nat.min_eq_left h]
  · rw [Nat.min_eq_right (by omega), List.take_of_length_le (Nat.le_refl _), List.take_of_length_le (by omega)]
theorem cut_but {α : Type} (x : List α) : cutP x none (some (-1)) = x.dropLast := by
  unfold cutP
  have e : HT.sIx x.length x.length (some (-1)) = x.length - 1 := by
    show (if (-1 : Int) < 0 then ((-1 : Int) + (x.length : Int)).toNat else min (-1 : Int).toNat x.length) = _
    rw [if_pos (by decide)]
    omega
  rw [e, HT.sIx_none, List.drop_zero, Nat.sub_zero, List.dropLast_eq_take]
theorem atI_nat {α : Type} (x : List α) (k : Nat) : atI x (k : Int) = x[k]? := by
  unfold atI ixN
  by_cases h : k < x.length
  · rw [if_pos (by omega), if_pos (by omega)]
    simp
  · rw [if_pos (by omega), if_neg (by omega), List.getElem?_eq_none (by omega)]
    rfl
theorem atI_last {α : Type} (x : List α) : atI x (-1) = x.getLast? := by
  unfold atI ixN
  cases x with
  | nil => rfl
  | cons a r =>
    rw [if_neg (by decide), if_pos (by simp; omega)]
    rw [List.getLast?_eq_getElem?]
    have : ((-1 : Int) + ((a :: r).length : Nat)).toNat = (a :: r).length - 1 := by omega
    rw [this]
    rfl
theorem ix_lst {xs : List PV} {k : Nat} : ixP (.lst xs) (.int (k : Int)) = xs[k]? := atI_nat xs k
theorem ix_tup' {xs : List PV} {k : Nat} : ixP (.tup xs) (.int (k : Int)) = xs[k]? := atI_nat xs k
theorem ix_lstL {xs : List PV} : ixP (.lst xs) (.int (-1)) = xs.getLast? := atI_last xs
theorem ix_str' {x : List Nat} {k c : Nat} (h : x.length ≤ 16777216) (e : x[k]? = some c) : ixP (.str x) (.int (k : Int)) = some (.str [c]) := by
  have q : ixP (.str x) (.int (k : Int)) = if x.length ≤ sizeLine then (match atI x (k : Int) with | some n => some (PV.str [n]) | none => none) else none := by unfold ixP; rfl
  rw [q, szl, if_pos h, atI_nat, e]
theorem sl_str_from {x : List Nat} {k : Nat} (h : x.length ≤ 16777216) : slP (.str x) (some (k : Int)) none = some (.str (x.drop k)) := by
  have q : slP (.str x) (some (k : Int)) none = if x.length ≤ sizeLine then some (PV.str (cutP x (some (k : Int)) none)) else none := by unfold slP; rfl
  rw [q, szl, if_pos h, cut_from]
theorem sl_str_to {x : List Nat} {k : Nat} (h : x.length ≤ 16777216) : slP (.str x) none (some (k : Int)) = some (.str (x.take k)) := by
  have q : slP (.str x) none (some (k : Int)) = if x.length ≤ sizeLine then some (PV.str (cutP x none (some (k : Int)))) else none := by unfold slP; rfl
  rw [q, szl, if_pos h, cut_to]
theorem sl_str_but {x : List Nat} (h : x.length ≤ 16777216) : slP (.str x) none (some (-1)) = some (.str x.dropLast) := by
  have q : slP (.str x) none (some (-1)) = if x.length ≤ sizeLine then some (PV.str (cutP x none (some (-1)))) else none := by unfold slP; rfl
  rw [q, szl, if_pos h, cut_but]
theorem sl_lst_from {x : List PV} {k : Nat} : slP (.lst x) (some (k : Int)) none = some (.lst (x.drop k)) := by
  have q : slP (.lst x) (some (k : Int)) none = some (.lst (cutP x (some (k : Int)) none)) := by unfold slP; rfl
  rw [q, cut_from]
theorem add_str' {x y : List Nat} (h : x.length + y.length ≤ 16777216) : addP (.str x) (.str y) = some (.str (x ++ y)) := by
  have q : addP (.str x) (.str y) = if x.length + y.length ≤ sizeLine then some (.str (x ++ y)) else none := by unfold addP; rfl
  rw [q, szl, if_pos h]
theorem len_str {x : List Nat} (h : x.length ≤ 16777216) : (un lenP) [.str x] = some (.int (x.length : Int)) := by
  have e : (un lenP) [.str x] = (if x.length ≤ sizeLine then some (PV.int x.length) else none) := by unfold un lenP; rfl
  rw [e, szl, if_pos h]
theorem len_lst {x : List PV} : (un lenP) [.lst x] = some (.int (x.length : Int)) := by unfold un lenP; rfl
theorem len_tup {x : List PV} : (un lenP) [.tup x] = some (.int (x.length : Int)) := by unfold un lenP; rfl
theorem rng_nat (n : Nat) (h : n ≤ 16777216) : rngP [.int (n : Int)] = some ((List.range n).map fun (i : Nat) => PV.int i) := by
  simp only [rngP]
  rw [if_pos ⟨by omega, by omega⟩, Int.toNat_natCast, rngL]
  simp
theorem rng_nat2 (a b : Nat) (h : a ≤ 16777216) (h2 : b ≤ 16777216) : rngP [.int (a : Int), .int (b : Int)] = some ((List.range' a (b - a)).map fun (i : Nat) => PV.int i) := by
  simp only [rngP]
  rw [if_pos ⟨by omega, by omega, by omega, by omega⟩, rngL, List.range'_eq_map_range, List.map_map]
  have : ((b : Int) - (a : Int)).toNat = b - a := by omega
  rw [this]
  congr 2
theorem min2_nat (a b : Nat) : (PL.bi min2P) [.int (a : Int), .int (b : Int)] = some (.int ((min a b : Nat) : Int)) := by
  have e : (if (b : Int) < (a : Int) then (b : Int) else (a : Int)) = ((min a b : Nat) : Int) := by
    split <;> omega
  rw [← e]
  rfl
theorem okS {x : List Nat} (h : ∀ c ∈ x, c < 128) : okN 60 (.str x) = true := by
  simp only [okN, List.all_eq_true, decide_eq_true_eq]
  exact h
theorem ne_one {a b : Nat} (ha : a < 128) (hb : b < 128) : neP (.str [a]) (.str [b]) = some (.bl (!decide (a = b))) := by
  unfold neP
  rw [okS (by simpa using ha), okS (by simpa using hb)]
  simp only [Bool.and_self, if_true, veq, List.cons_beq_cons, List.nil_beq_eq, List.isEmpty_nil, Bool.and_true]
  rw [show (a == b) = decide (a = b) from rfl]
theorem eq_one {a b : Nat} (ha : a < 128) (hb : b < 128) : eqP (.str [a]) (.str [b]) = some (.bl (decide (a = b))) := by
  unfold eqP
  rw [okS (by simpa using ha), okS (by simpa using hb)]
  simp only [Bool.and_self, if_true, veq, List.cons_beq_cons, List.nil_beq_eq, List.isEmpty_nil, Bool.and_true]
  rw [show (a == b) = decide (a = b) from rfl]
theorem eq_bl (a b : Bool) : eqP (.bl a) (.bl b) = some (.bl (a == b)) := rfl
theorem eq_int (a b : Int) : eqP (.int a) (.int b) = some (.bl (decide (a = b))) := rfl
theorem ne_int (a b : Int) : neP (.int a) (.int b) = some (.bl (!decide (a = b))) := rfl
theorem tru_bl (b : Bool) : truP (.bl b) = some b := rfl
theorem int_int (k : Int) : (un intP) [.int k] = some (.int k) := rfl
theorem int_bl (b : Bool) : (un intP) [.bl b] = some (.int (if b then 1 else 0)) := rfl
end PL

set_option Elab.async false
set_option linter.all false
set_option maxRecDepth 100000
set_option maxHeartbeats 4000000
/-! the defs of the law, walked over PL (printed by gen.py) -/
namespace K14
open PySem PySem.Spec PyProof.Rows L2 PL
abbrev top (i : Nat) : Stmt := PySem.Challenge.pw_landtogether_k14_whole_covers_of_words_t.main.body.getD i (.Pass ⟨0, 0, 0, 0⟩)
structure Facts (mg : Str → Option Value) : Prop where
  f_abs : mg "abs" = none
  f_all : mg "all" = none
  f_bool : mg "bool" = none
  f_enumerate : mg "enumerate" = none
  f_int : mg "int" = none
  f_isinstance : mg "isinstance" = none
  f_len : mg "len" = none
  f_min : mg "min" = none
  f_range : mg "range" = none
  f_repr : mg "repr" = none
  f_sorted : mg "sorted" = none
  f_str : mg "str" = none
  f_sum : mg "sum" = none
  f_tuple : mg "tuple" = none
  f_zip : mg "zip" = none
  c_LEFT : ∃ t, mg "LEFT" = some (.str "L" t)
  c_MOST_SIGNS : ∃ t, mg "MOST_SIGNS" = some (.int 16 t)
  c_MOST_TRAILS : ∃ t, mg "MOST_TRAILS" = some (.int 200 t)
  c_RIGHT : ∃ t, mg "RIGHT" = some (.str "R" t)
  c_TURN : ∃ t, mg "TURN" = some (.str "C" t)
abbrev FnP (K : PySem.W.Frag) (x : Str) (st : Stmt) (f : Addr) (fd : FuncData) : Prop := FunD K x x (defArgs st) (defBody st) (defScope st) [] [] f fd
/-! is_integer -/
theorem sc_is_integer : FnScope ["thing"] ["thing"] (defScope (top 6)) := ⟨rfl, rfl, rfl, by decide +kernel, rfl, by decide +kernel, by decide +kernel⟩
def b_is_integer : DS :=
    (dsRet (dTV (dAnd (blOnly (dUn (isiP "int") (dV 0))) (blOnly (dTV (dNot (dTru (dUn (isiP "bool") (dV 0)))))))))
def d_is_integer : List PV → HS → Option (PV × HS) := fnD 1 b_is_integer
theorem ok_is_integer {P : Program} {w : World} {K : PySem.W.Frag} {mg : Str → Option Value} {base : Heap} {f : Addr} {fd : FuncData} (ff : Facts mg)  (F : FnP K "is_integer" (top 6) f fd) : FnOk P w K mg base CX0 1 f fd ["thing"] (spD K 1 .fz d_is_integer) :=
  fn_D (N := ["thing"]) F sc_is_integer (by decide) md_fz (fun cdv A outer s H E F0 hd hr => (ss_one (s_ret (p_and (p_isi (T := "int") (by decide) rfl ff.f_isinstance rfl ff.f_int boot_int (p_var (pv 0))) (p_one (p_not (p_isi (T := "bool") (by decide) rfl ff.f_isinstance rfl ff.f_bool boot_bool (p_var (pv 0)))))))))
/-! is_within -/
theorem sc_is_within : FnScope ["thing", "low", "high"] ["thing", "low", "high"] (defScope (top 7)) := ⟨rfl, rfl, rfl, by decide +kernel, rfl, by decide +kernel, by decide +kernel⟩
def b_is_within : DS :=
    (dsRet (dTV (dAnd (blOnly (dFn d_is_integer (dCons (dV 0) dNil))) (blOnly (dChain leP leP (dV 1) (dV 0) (dV 2))))))
def d_is_within : List PV → HS → Option (PV × HS) := fnD 3 b_is_within
theorem ok_is_within {P : Program} {w : World} {K : PySem.W.Frag} {mg : Str → Option Value} {base : Heap} {f : Addr} {fd : FuncData} (ff : Facts mg) (D_is_integer : OkD P w K mg base "is_integer" 1 1 .fz d_is_integer) (F : FnP K "is_within" (top 7) f fd) : FnOk P w K mg base CX0 2 f fd ["thing", "low", "high"] (spD K 3 .fz d_is_within) :=
  fn_D (N := ["thing", "low", "high"]) F sc_is_within (by decide) md_fz (fun cdv A outer s H E F0 hd hr => (ss_one (s_ret (p_and (p_fn D_is_integer hr (by decide) rfl rfl (pa_c (p_var (pv 0)) pa_n) (lenS len0)) (p_one (p_chain op_leA op_leA le_ok le_ok (p_var (pv 1)) (p_var (pv 0)) (p_var (pv 2))))))))
/-! is_turn_word -/
theorem sc_is_turn_word : FnScope ["thing", "sign"] ["thing"] (defScope (top 13)) := ⟨rfl, rfl, rfl, by decide +kernel, rfl, by decide +kernel, by decide +kernel⟩
def b_is_turn_word : DS :=
    (dsSeq (dsIf (dOr (dNot (dTru (dUn (isiP "str") (dV 0)))) (dOr (dNot (dTru (dChain leP leP (dC (.int 1)) (dCall (un lenP) (dCons (dV 0) dNil)) (dC (.int 16))))) (dTru (dBin neP (dBin ixP (dV 0) (dUn negP (dC (.int 1)))) (dC (.str [67])))))) (dsRet (dC (.bl false))) dsSkip)
    (dsRet (dCall (un allP) (dCons (dLc [1] (dIt (dSl slP (dV 0) dNo (dSo (dUn negP (dC (.int 1)))))) (dgN 1) dYes (dBin inP' (dV 1) (dBin addP (dC (.str [76])) (dC (.str [82]))))) dNil))))
def d_is_turn_word : List PV → HS → Option (PV × HS) := fnD 2 b_is_turn_word
theorem ok_is_turn_word {P : Program} {w : World} {K : PySem.W.Frag} {mg : Str → Option Value} {base : Heap} {f : Addr} {fd : FuncData} (ff : Facts mg)  (F : FnP K "is_turn_word" (top 13) f fd) : FnOk P w K mg base CX0 1 f fd ["thing"] (spD K 1 .fz d_is_turn_word) :=
  fn_D (N := ["thing", "sign"]) F sc_is_turn_word (by decide) md_fz (fun cdv A outer s H E F0 hd hr => (ss_cons (s_if (PW.pt (pw_o (pt_not' (pt_tru (p_isi (T := "str") (by decide) rfl ff.f_isinstance rfl ff.f_str boot_str (p_var (pv 0))))) (pw_o (pt_not' (pt_chain' op_leA op_leA le_ok le_ok leP_b p_int (p_bi call_len len_ok rfl ff.f_len boot_len (pa_c (to_bw (p_var (pv 0))) pa_n)) (p_gint rfl ff.c_MOST_SIGNS))) (pw_o1 (pt_cmp' (op_neD (u64 hr)) ne_ok neP_b (nomark _) (p_ix ix_seq ix_ok (p_var (pv 0)) (p_un un_neg neg_ok p_int) (fun _ _ => rfl)) (p_gstr rfl ff.c_TURN (by decide +kernel))))))) (ss_one (s_ret p_bl)) ss_nil)
    (ss_one (s_ret (p_bi (cr_all rfl) all_ok rfl ff.f_all boot_all (pa_c (to_bw (p_lc (own := [("sign", 1)]) rfl sc_is_turn_word.nd (i_bw (to_bw (p_sl sl_any sl_ok (p_var (pv 0)) po_n (po_s (p_un un_neg neg_ok p_int))))) (blkOk_by (N := ["thing", "sign"]) (sc := defScope (top 13)) (own := [("sign", 1)]) (by decide +kernel)) (by decide) (fun _ _ _ _ _ => (g_name (pg_name (i := 1) sc_is_turn_word.nd rfl (by first | exact Or.inl rfl | exact Or.inr rfl)))) (fun _ _ _ _ _ => pts_y) (fun _ _ _ _ _ => (p_cmp (op_inA (u65 hr)) in_ok (by with_unfolding_all rfl) (p_var (pv 1)) (p_op op_addA add_ok (p_gstr rfl ff.c_LEFT (by decide +kernel)) (p_gstr rfl ff.c_RIGHT (by decide +kernel))))))) pa_n))))))
/-! check_turn_word -/
theorem sc_check_turn_word : FnScope ["thing"] ["thing"] (defScope (top 14)) := ⟨rfl, rfl, rfl, by decide +kernel, rfl, by decide +kernel, by decide +kernel⟩
def b_check_turn_word : DS :=
    (dsIf (dNot (dTru (dFn d_is_turn_word (dCons (dV 0) dNil)))) dsNever dsSkip)
def d_check_turn_word : List PV → HS → Option (PV × HS) := fnD 1 b_check_turn_word
theorem ok_check_turn_word {P : Program} {w : World} {K : PySem.W.Frag} {mg : Str → Option Value} {base : Heap} {f : Addr} {fd : FuncData} (ff : Facts mg) (D_is_turn_word : OkD P w K mg base "is_turn_word" 1 1 .fz d_is_turn_word) (F : FnP K "check_turn_word" (top 14) f fd) : FnOk P w K mg base CX0 2 f fd ["thing"] (spD K 1 .fz d_check_turn_word) :=
  fn_D (N := ["thing"]) F sc_check_turn_word (by decide) md_fz (fun cdv A outer s H E F0 hd hr => (ss_one (s_if (pt_not' (pt_tru (p_fn D_is_turn_word hr (by decide) rfl rfl (pa_c (p_var (pv 0)) pa_n) (lenS len0)))) (ss_one s_never) ss_nil)))
/-! rank_of -/
theorem sc_rank_of : FnScope ["sign"] ["sign"] (defScope (top 15)) := ⟨rfl, rfl, rfl, by decide +kernel, rfl, by decide +kernel, by decide +kernel⟩
def b_rank_of : DS :=
    (dsRet (dMth sixP (dBin addP (dBin addP (dC (.str [76])) (dC (.str [67]))) (dC (.str [82]))) (dCons (dV 0) dNil)))
def d_rank_of : List PV → HS → Option (PV × HS) := fnD 1 b_rank_of
theorem ok_rank_of {P : Program} {w : World} {K : PySem.W.Frag} {mg : Str → Option Value} {base : Heap} {f : Addr} {fd : FuncData} (ff : Facts mg)  (F : FnP K "rank_of" (top 15) f fd) : FnOk P w K mg base CX0 1 f fd ["sign"] (spD K 1 .fz d_rank_of) :=
  fn_D (N := ["sign"]) F sc_rank_of (by decide) md_fz (fun cdv A outer s H E F0 hd hr => (ss_one (s_ret (p_mth PySem.F.plainAttrs_str PySem.F.slot_str_index rfl mt_sindex six_ok (str_ty sixP_s) (p_op op_addA add_ok (p_op op_addA add_ok (p_gstr rfl ff.c_LEFT (by decide +kernel)) (p_gstr rfl ff.c_TURN (by decide +kernel))) (p_gstr rfl ff.c_RIGHT (by decide +kernel))) (pa_c (to_bw (p_var (pv 0))) pa_n)))))
/-! is_raw_less -/
theorem sc_is_raw_less : FnScope ["one", "other", "is_even", "first", "last"] ["one", "other"] (defScope (top 16)) := ⟨rfl, rfl, rfl, by decide +kernel, rfl, by decide +kernel, by decide +kernel⟩
def b_is_raw_less : DS :=
    (dsSeq (dsSet .val 2 (dC (.bl true)))
    (dsSeq (dsFor (dgT 2 (dgCons (dgN 3) (dgCons (dgN 4) dgNil))) (dItA zipP (dCons (dV 0) (dCons (dV 1) dNil))) (dsSeq (dsIf (dTru (dBin neP (dV 3) (dV 4))) (dsRet (dBin eqP (dBin ltP (dFn d_rank_of (dCons (dV 3) dNil)) (dFn d_rank_of (dCons (dV 4) dNil))) (dV 2))) dsSkip)
    (dsIf (dTru (dBin eqP (dV 3) (dC (.str [82])))) (dsSet .val 2 (dTV (dNot (dTru (dV 2))))) dsSkip)))
    (dsRet (dC (.bl false)))))
def d_is_raw_less : List PV → HS → Option (PV × HS) := fnD 5 b_is_raw_less
theorem ok_is_raw_less {P : Program} {w : World} {K : PySem.W.Frag} {mg : Str → Option Value} {base : Heap} {f : Addr} {fd : FuncData} (ff : Facts mg) (D_rank_of : OkD P w K mg base "rank_of" 1 1 .fz d_rank_of) (F : FnP K "is_raw_less" (top 16) f fd) : FnOk P w K mg base CX0 2 f fd ["one", "other"] (spD K 2 .fz d_is_raw_less) :=
  fn_D (N := ["one", "other", "is_even", "first", "last"]) F sc_is_raw_less (by decide) md_fz (fun cdv A outer s H E F0 hd hr => (ss_cons (s_set p_bl sc_is_raw_less.nd (i := 2) rfl (by first | exact Or.inl rfl | exact Or.inr rfl))
    (ss_cons (s_for PassesOwn.never rfl (i_zip_fz rfl ff.f_zip (pa_c (p_var (pv 0)) (pa_c (p_var (pv 1)) pa_n)) len2) (g_tup rfl (gs_cons (g_name (pg_name (i := 3) sc_is_raw_less.nd rfl (by first | exact Or.inl rfl | exact Or.inr rfl))) (gs_cons (g_name (pg_name (i := 4) sc_is_raw_less.nd rfl (by first | exact Or.inl rfl | exact Or.inr rfl))) gs_nil))) (ss_cons (s_if (pt_cmp' (op_neD (u64 hr)) ne_ok neP_b (nomark _) (p_var (pv 3)) (p_var (pv 4))) (ss_one (s_ret (p_cmp (op_eqD (u64 hr)) eq_ok (nomark _) (p_cmp op_ltA lt_ok (nomark _) (p_fn D_rank_of hr (by decide) rfl rfl (pa_c (p_var (pv 3)) pa_n) (lenS len0)) (p_fn D_rank_of hr (by decide) rfl rfl (pa_c (p_var (pv 4)) pa_n) (lenS len0))) (p_var (pv 2))))) ss_nil)
    (ss_one (s_if (pt_cmp' (op_eqD (u64 hr)) eq_ok eqP_b (nomark _) (p_var (pv 3)) (p_gstr rfl ff.c_RIGHT (by decide +kernel))) (ss_one (s_set (p_not (p_var (pv 2))) sc_is_raw_less.nd (i := 2) rfl (by first | exact Or.inl rfl | exact Or.inr rfl))) ss_nil))))
    (ss_one (s_ret p_bl)))))
/-! not_less_shifts -/
theorem sc_not_less_shifts : FnScope ["word", "k"] ["word"] (defScope (top 17)) := ⟨rfl, rfl, rfl, by decide +kernel, rfl, by decide +kernel, by decide +kernel⟩
def b_not_less_shifts : DS :=
    (dsRet (dLc [1] (dItA rngP (dCons (dC (.int 1)) (dCons (dCall (un lenP) (dCons (dV 0) dNil)) dNil))) (dgN 1) (dNot (dTru (dFn d_is_raw_less (dCons (dSl slP (dV 0) (dSo (dV 1)) dNo) (dCons (dV 0) dNil))))) (dV 1)))
def d_not_less_shifts : List PV → HS → Option (PV × HS) := fnD 2 b_not_less_shifts
theorem ok_not_less_shifts {P : Program} {w : World} {K : PySem.W.Frag} {mg : Str → Option Value} {base : Heap} {f : Addr} {fd : FuncData} (ff : Facts mg) (D_is_raw_less : OkD P w K mg base "is_raw_less" 2 2 .fz d_is_raw_less) (F : FnP K "not_less_shifts" (top 17) f fd) : FnOk P w K mg base CX0 3 f fd ["word"] (spD K 1 .fz d_not_less_shifts) :=
  fn_D (N := ["word", "k"]) F sc_not_less_shifts (by decide) md_fz (fun cdv A outer s H E F0 hd hr => (ss_one (s_ret (fr_fz (p_lc (own := [("k", 1)]) rfl sc_not_less_shifts.nd (i_range2 rfl ff.f_range (pa_c (to_bw p_int) (pa_c (to_bw (p_bi call_len len_ok rfl ff.f_len boot_len (pa_c (to_bw (p_var (pv 0))) pa_n))) pa_n)) len2) (blkOk_by (N := ["word", "k"]) (sc := defScope (top 17)) (own := [("k", 1)]) (by decide +kernel)) (by decide) (fun _ _ _ _ _ => (g_name (pg_name (i := 1) sc_not_less_shifts.nd rfl (by first | exact Or.inl rfl | exact Or.inr rfl)))) (fun _ _ _ _ _ => (pts_1 (pt_not' (pt_tru (p_fn D_is_raw_less hr (by decide) rfl rfl (pa_c (p_sl sl_any sl_ok (p_var (pv 0)) (po_s (p_var (pv 1))) po_n) (pa_c (p_var (pv 0)) pa_n)) (lenS (lenS len0))))))) (fun _ _ _ _ _ => (p_var (pv 1))))))))
/-! check_greatest -/
theorem sc_check_greatest : FnScope ["word"] ["word"] (defScope (top 18)) := ⟨rfl, rfl, rfl, by decide +kernel, rfl, by decide +kernel, by decide +kernel⟩
def b_check_greatest : DS :=
    (dsSeq (dsDrop (dFn d_check_turn_word (dCons (dV 0) dNil)))
    (dsIf (dTru (dBin gtP (dCall (un lenP) (dCons (dFn d_not_less_shifts (dCons (dV 0) dNil)) dNil)) (dC (.int 0)))) dsNever dsSkip))
def d_check_greatest : List PV → HS → Option (PV × HS) := fnD 1 b_check_greatest
theorem ok_check_greatest {P : Program} {w : World} {K : PySem.W.Frag} {mg : Str → Option Value} {base : Heap} {f : Addr} {fd : FuncData} (ff : Facts mg) (D_check_turn_word : OkD P w K mg base "check_turn_word" 2 1 .fz d_check_turn_word) (D_not_less_shifts : OkD P w K mg base "not_less_shifts" 3 1 .fz d_not_less_shifts) (F : FnP K "check_greatest" (top 18) f fd) : FnOk P w K mg base CX0 4 f fd ["word"] (spD K 1 .fz d_check_greatest) :=
  fn_D (N := ["word"]) F sc_check_greatest (by decide) md_fz (fun cdv A outer s H E F0 hd hr => (ss_cons (s_expr (p_fn D_check_turn_word hr (by decide) rfl rfl (pa_c (p_var (pv 0)) pa_n) (lenS len0)))
    (ss_one (s_if (pt_cmp' op_gtA gt_ok gtP_b (nomark _) (p_bi call_len len_ok rfl ff.f_len boot_len (pa_c (to_bw (p_fn D_not_less_shifts hr (by decide) rfl rfl (pa_c (p_var (pv 0)) pa_n) (lenS len0))) pa_n)) p_int) (ss_one s_never) ss_nil))))
/-! check_long -/
theorem sc_check_long : FnScope ["word"] ["word"] (defScope (top 19)) := ⟨rfl, rfl, rfl, by decide +kernel, rfl, by decide +kernel, by decide +kernel⟩
def b_check_long : DS :=
    (dsSeq (dsDrop (dFn d_check_greatest (dCons (dV 0) dNil)))
    (dsIf (dTru (dBin ltP (dCall (un lenP) (dCons (dV 0) dNil)) (dC (.int 2)))) dsNever dsSkip))
def d_check_long : List PV → HS → Option (PV × HS) := fnD 1 b_check_long
theorem ok_check_long {P : Program} {w : World} {K : PySem.W.Frag} {mg : Str → Option Value} {base : Heap} {f : Addr} {fd : FuncData} (ff : Facts mg) (D_check_greatest : OkD P w K mg base "check_greatest" 4 1 .fz d_check_greatest) (F : FnP K "check_long" (top 19) f fd) : FnOk P w K mg base CX0 5 f fd ["word"] (spD K 1 .fz d_check_long) :=
  fn_D (N := ["word"]) F sc_check_long (by decide) md_fz (fun cdv A outer s H E F0 hd hr => (ss_cons (s_expr (p_fn D_check_greatest hr (by decide) rfl rfl (pa_c (p_var (pv 0)) pa_n) (lenS len0)))
    (ss_one (s_if (pt_cmp' op_ltA lt_ok ltP_b (nomark _) (p_bi call_len len_ok rfl ff.f_len boot_len (pa_c (to_bw (p_var (pv 0))) pa_n)) p_int) (ss_one s_never) ss_nil))))
/-! told_on -/
theorem sc_told_on : FnScope ["word", "shift"] ["word", "shift"] (defScope (top 22)) := ⟨rfl, rfl, rfl, by decide +kernel, rfl, by decide +kernel, by decide +kernel⟩
def b_told_on : DS :=
    (dsRet (dBin addP (dBin addP (dSl slP (dV 0) (dSo (dV 1)) dNo) (dV 0)) (dV 0)))
def d_told_on : List PV → HS → Option (PV × HS) := fnD 2 b_told_on
theorem ok_told_on {P : Program} {w : World} {K : PySem.W.Frag} {mg : Str → Option Value} {base : Heap} {f : Addr} {fd : FuncData} (ff : Facts mg)  (F : FnP K "told_on" (top 22) f fd) : FnOk P w K mg base CX0 1 f fd ["word", "shift"] (spD K 2 .fz d_told_on) :=
  fn_D (N := ["word", "shift"]) F sc_told_on (by decide) md_fz (fun cdv A outer s H E F0 hd hr => (ss_one (s_ret (p_op op_addA add_ok (p_op op_addA add_ok (p_sl sl_any sl_ok (p_var (pv 0)) (po_s (p_var (pv 1))) po_n) (p_var (pv 0))) (p_var (pv 0))))))
/-! raw_stands -/
theorem sc_raw_stands : FnScope ["word", "found", "shift", "at", "other"] ["word"] (defScope (top 23)) := ⟨rfl, rfl, rfl, by decide +kernel, rfl, by decide +kernel, by decide +kernel⟩
def b_raw_stands : DS :=
    (dsSeq (dsSet .own 1 (dLst dNil))
    (dsSeq (dsFor (dgN 2) (dItA rngP (dCons (dCall (un lenP) (dCons (dV 0) dNil)) dNil)) (dsSeq (dsSet .val 3 (dCall (un lenP) (dCons (dLc [4] (dIt (dO 1)) (dgN 4) (dTru (dFn d_is_raw_less (dCons (dFn d_told_on (dCons (dV 0) (dCons (dV 4) dNil))) (dCons (dFn d_told_on (dCons (dV 0) (dCons (dV 2) dNil))) dNil)))) (dV 4)) dNil)))
    (dsMut 1 inP (dCons (dV 3) (dCons (dV 2) dNil)))))
    (dsFrz 1 (dsRet (dV 1)))))
def d_raw_stands : List PV → HS → Option (PV × HS) := fnD 5 b_raw_stands
theorem ok_raw_stands {P : Program} {w : World} {K : PySem.W.Frag} {mg : Str → Option Value} {base : Heap} {f : Addr} {fd : FuncData} (ff : Facts mg) (D_is_raw_less : OkD P w K mg base "is_raw_less" 2 2 .fz d_is_raw_less) (D_told_on : OkD P w K mg base "told_on" 1 2 .fz d_told_on) (F : FnP K "raw_stands" (top 23) f fd) : FnOk P w K mg base CX0 3 f fd ["word"] (spD K 1 .fz d_raw_stands) :=
  fn_D (N := ["word", "found", "shift", "at", "other"]) F sc_raw_stands (by decide) md_fz (fun cdv A outer s H E F0 hd hr => (ss_cons (s_setO (p_lst pa_n) sc_raw_stands.nd (i := 1) rfl (by first | exact Or.inl rfl | exact Or.inr rfl))
    (ss_cons (s_for PassesOwn.never rfl (i_range1 rfl ff.f_range (pa_c (to_bw (p_bi call_len len_ok rfl ff.f_len boot_len (pa_c (to_bw (p_var (pv 0))) pa_n))) pa_n) len1) (g_name (pg_name (i := 2) sc_raw_stands.nd rfl (by first | exact Or.inl rfl | exact Or.inr rfl))) (ss_cons (s_set (p_bi call_len len_ok rfl ff.f_len boot_len (pa_c (to_bw (p_lc (own := [("other", 4)]) rfl sc_raw_stands.nd (i_bw (p_own (pv 1))) (blkOk_by (N := ["word", "found", "shift", "at", "other"]) (sc := defScope (top 23)) (own := [("other", 4)]) (by decide +kernel)) (by decide) (fun _ _ _ _ _ => (g_name (pg_name (i := 4) sc_raw_stands.nd rfl (by first | exact Or.inl rfl | exact Or.inr rfl)))) (fun _ _ _ _ _ => (pts_1 (pt_tru (p_fn D_is_raw_less hr (by decide) rfl rfl (pa_c (p_fn D_told_on hr (by decide) rfl rfl (pa_c (p_var (pv 0)) (pa_c (p_var (pv 4)) pa_n)) (lenS (lenS len0))) (pa_c (p_fn D_told_on hr (by decide) rfl rfl (pa_c (p_var (pv 0)) (pa_c (p_var (pv 2)) pa_n)) (lenS (lenS len0))) pa_n)) (lenS (lenS len0)))))) (fun _ _ _ _ _ => (p_var (pv 4))))) pa_n)) sc_raw_stands.nd (i := 3) rfl (by first | exact Or.inl rfl | exact Or.inr rfl))
    (ss_one (s_mut (.inl rfl) PySem.F.plainAttrs_list PySem.F.slot_list_insert rfl mt_insert inP_ok inP_l (pv 1) (pa_c (p_var (pv 3)) (pa_c (p_var (pv 2)) pa_n))))))
    (ss_frz 1 (ss_one (s_ret (p_var (pv 1))))))))
/-! stands_of -/
theorem sc_stands_of : FnScope ["word"] ["word"] (defScope (top 24)) := ⟨rfl, rfl, rfl, by decide +kernel, rfl, by decide +kernel, by decide +kernel⟩
def b_stands_of : DS :=
    (dsSeq (dsDrop (dFn d_check_long (dCons (dV 0) dNil)))
    (dsRet (dCall (un tupP) (dCons (dFn d_raw_stands (dCons (dV 0) dNil)) dNil))))
def d_stands_of : List PV → HS → Option (PV × HS) := fnD 1 b_stands_of
theorem ok_stands_of {P : Program} {w : World} {K : PySem.W.Frag} {mg : Str → Option Value} {base : Heap} {f : Addr} {fd : FuncData} (ff : Facts mg) (D_check_long : OkD P w K mg base "check_long" 5 1 .fz d_check_long) (D_raw_stands : OkD P w K mg base "raw_stands" 3 1 .fz d_raw_stands) (F : FnP K "stands_of" (top 24) f fd) : FnOk P w K mg base CX0 6 f fd ["word"] (spD K 1 .fz d_stands_of) :=
  fn_D (N := ["word"]) F sc_stands_of (by decide) md_fz (fun cdv A outer s H E F0 hd hr => (ss_cons (s_expr (p_fn D_check_long hr (by decide) rfl rfl (pa_c (p_var (pv 0)) pa_n) (lenS len0)))
    (ss_one (s_ret (p_ty call_tuple_of tup_ok rfl ff.f_tuple boot_tuple (pa_c (to_bw (p_fn D_raw_stands hr (by decide) rfl rfl (pa_c (p_var (pv 0)) pa_n) (lenS len0))) pa_n))))))
/-! raw_covers -/
theorem sc_raw_covers : FnScope ["word", "places", "at", "stands", "found", "ends", "shift", "step"] ["word"] (defScope (top 25)) := ⟨rfl, rfl, rfl, by decide +kernel, rfl, by decide +kernel, by decide +kernel⟩
def b_raw_covers : DS :=
    (dsSeq (dsPar .val .own 3 4 (dFn d_raw_stands (dCons (dV 0) dNil)) (dLst dNil))
    (dsSeq (dsSet .val 1 (dDc [2, 6] (dItA enumP (dCons (dV 3) dNil)) (dgT 2 (dgCons (dgN 2) (dgCons (dgN 6) dgNil))) dYes (dV 6) (dV 2)))
    (dsSeq (dsFor (dgN 2) (dItA rngP (dCons (dBin subP (dCall (un lenP) (dCons (dV 3) dNil)) (dC (.int 1))) dNil)) (dsSeq (dsSet .val 5 (dCall (un sortedI) (dCons (dLc [7] (dIt (dTup (dCons (dC (.int 0)) (dCons (dC (.int 1)) dNil)))) (dgN 7) dYes (dBin dgP (dV 1) (dBin modP (dBin addP (dBin ixP (dV 3) (dBin addP (dV 2) (dV 7))) (dC (.int 1))) (dCall (un lenP) (dCons (dV 0) dNil))))) dNil)))
    (dsMut 4 apP (dCons (dBin (rgP .tup) (dBin ixP (dV 5) (dC (.int 0))) (dBin ixP (dV 5) (dC (.int 1)))) dNil))))
    (dsFrz 4 (dsRet (dV 4))))))
def d_raw_covers : List PV → HS → Option (PV × HS) := fnD 8 b_raw_covers
theorem ok_raw_covers {P : Program} {w : World} {K : PySem.W.Frag} {mg : Str → Option Value} {base : Heap} {f : Addr} {fd : FuncData} (ff : Facts mg) (D_raw_stands : OkD P w K mg base "raw_stands" 3 1 .fz d_raw_stands) (F : FnP K "raw_covers" (top 25) f fd) : FnOk P w K mg base CX0 4 f fd ["word"] (spD K 1 .fz d_raw_covers) :=
  fn_D (N := ["word", "places", "at", "stands", "found", "ends", "shift", "step"]) F sc_raw_covers (by decide) md_fz (fun cdv A outer s H E F0 hd hr => (ss_cons (s_parT (m1 := .fz) (m2 := .fr) (.inl rfl) (.inr rfl) rfl (pg_name (i := 3) sc_raw_covers.nd rfl (by first | exact Or.inl rfl | exact Or.inr rfl)) (pg_name (i := 4) sc_raw_covers.nd rfl (by first | exact Or.inl rfl | exact Or.inr rfl)) (p_fn D_raw_stands hr (by decide) rfl rfl (pa_c (p_var (pv 0)) pa_n) (lenS len0)) (p_lst pa_n))
    (ss_cons (s_set (fr_fz (p_dc (own := [("at", 2), ("shift", 6)]) rfl sc_raw_covers.nd (i_enum_bw rfl ff.f_enumerate (pa_c (to_bw (p_var (pv 3))) pa_n) len1) (blkOk_by (N := ["word", "places", "at", "stands", "found", "ends", "shift", "step"]) (sc := defScope (top 25)) (own := [("at", 2), ("shift", 6)]) (by decide +kernel)) (by decide) (fun _ _ _ _ _ => (g_tup rfl (gs_cons (g_name (pg_name (i := 2) sc_raw_covers.nd rfl (by first | exact Or.inl rfl | exact Or.inr rfl))) (gs_cons (g_name (pg_name (i := 6) sc_raw_covers.nd rfl (by first | exact Or.inl rfl | exact Or.inr rfl))) gs_nil)))) (fun _ _ _ _ _ => pts_y) (fun _ _ _ _ _ => (p_var (pv 6))) (fun _ _ _ _ _ => (p_var (pv 2))))) sc_raw_covers.nd (i := 1) rfl (by first | exact Or.inl rfl | exact Or.inr rfl))
    (ss_cons (s_for PassesOwn.never rfl (i_range1 rfl ff.f_range (pa_c (to_bw (p_op op_sub sub_ok (p_bi call_len len_ok rfl ff.f_len boot_len (pa_c (to_bw (p_var (pv 3))) pa_n)) p_int)) pa_n) len1) (g_name (pg_name (i := 2) sc_raw_covers.nd rfl (by first | exact Or.inl rfl | exact Or.inr rfl))) (ss_cons (s_set (fr_fz (p_bi cr_sortedI sortedI_ok rfl ff.f_sorted boot_sorted (pa_c (to_bw (p_lc (own := [("step", 7)]) rfl sc_raw_covers.nd (i_bw (to_bw (p_tup (pa_c p_int (pa_c p_int pa_n))))) (blkOk_by (N := ["word", "places", "at", "stands", "found", "ends", "shift", "step"]) (sc := defScope (top 25)) (own := [("step", 7)]) (by decide +kernel)) (by decide) (fun _ _ _ _ _ => (g_name (pg_name (i := 7) sc_raw_covers.nd rfl (by first | exact Or.inl rfl | exact Or.inr rfl)))) (fun _ _ _ _ _ => pts_y) (fun _ _ _ _ _ => (p_dg (u1 hr) (p_var (pv 1)) (p_op op_mod mod_ok (p_op op_addA add_ok (p_ix ix_seq ix_ok (p_var (pv 3)) (p_op op_addA add_ok (p_var (pv 2)) (p_var (pv 7))) (fun _ _ => rfl)) p_int) (p_bi call_len len_ok rfl ff.f_len boot_len (pa_c (to_bw (p_var (pv 0))) pa_n))))))) pa_n))) sc_raw_covers.nd (i := 5) rfl (by first | exact Or.inl rfl | exact Or.inr rfl))
    (ss_one (s_mut (.inl rfl) PySem.F.plainAttrs_list PySem.F.slot_list_append rfl mt_append apP_ok apP_l (pv 4) (pa_c (p_tupRg2 rfl rfl ff.f_tuple rfl ff.f_range (p_ix ix_seq ix_ok (p_var (pv 5)) p_int (fun _ _ => rfl)) (p_ix ix_seq ix_ok (p_var (pv 5)) p_int (fun _ _ => rfl))) pa_n)))))
    (ss_frz 4 (ss_one (s_ret (p_var (pv 4)))))))))
/-! covers_of -/
theorem sc_covers_of : FnScope ["word"] ["word"] (defScope (top 26)) := ⟨rfl, rfl, rfl, by decide +kernel, rfl, by decide +kernel, by decide +kernel⟩
def b_covers_of : DS :=
    (dsSeq (dsDrop (dFn d_check_long (dCons (dV 0) dNil)))
    (dsRet (dCall (un tupP) (dCons (dFn d_raw_covers (dCons (dV 0) dNil)) dNil))))
def d_covers_of : List PV → HS → Option (PV × HS) := fnD 1 b_covers_of
theorem ok_covers_of {P : Program} {w : World} {K : PySem.W.Frag} {mg : Str → Option Value} {base : Heap} {f : Addr} {fd : FuncData} (ff : Facts mg) (D_check_long : OkD P w K mg base "check_long" 5 1 .fz d_check_long) (D_raw_covers : OkD P w K mg base "raw_covers" 4 1 .fz d_raw_covers) (F : FnP K "covers_of" (top 26) f fd) : FnOk P w K mg base CX0 6 f fd ["word"] (spD K 1 .fz d_covers_of) :=
  fn_D (N := ["word"]) F sc_covers_of (by decide) md_fz (fun cdv A outer s H E F0 hd hr => (ss_cons (s_expr (p_fn D_check_long hr (by decide) rfl rfl (pa_c (p_var (pv 0)) pa_n) (lenS len0)))
    (ss_one (s_ret (p_ty call_tuple_of tup_ok rfl ff.f_tuple boot_tuple (pa_c (to_bw (p_fn D_raw_covers hr (by decide) rfl rfl (pa_c (p_var (pv 0)) pa_n) (lenS len0))) pa_n))))))
/-! check_steps -/
theorem sc_check_steps : FnScope ["word", "steps", "least"] ["word", "steps", "least"] (defScope (top 27)) := ⟨rfl, rfl, rfl, by decide +kernel, rfl, by decide +kernel, by decide +kernel⟩
def b_check_steps : DS :=
    (dsSeq (dsDrop (dFn d_check_long (dCons (dV 0) dNil)))
    (dsIf (dNot (dTru (dFn d_is_within (dCons (dV 1) (dCons (dV 2) (dCons (dC (.int 200)) dNil)))))) dsNever dsSkip))
def d_check_steps : List PV → HS → Option (PV × HS) := fnD 3 b_check_steps
theorem ok_check_steps {P : Program} {w : World} {K : PySem.W.Frag} {mg : Str → Option Value} {base : Heap} {f : Addr} {fd : FuncData} (ff : Facts mg) (D_is_within : OkD P w K mg base "is_within" 2 3 .fz d_is_within) (D_check_long : OkD P w K mg base "check_long" 5 1 .fz d_check_long) (F : FnP K "check_steps" (top 27) f fd) : FnOk P w K mg base CX0 6 f fd ["word", "steps", "least"] (spD K 3 .fz d_check_steps) :=
  fn_D (N := ["word", "steps", "least"]) F sc_check_steps (by decide) md_fz (fun cdv A outer s H E F0 hd hr => (ss_cons (s_expr (p_fn D_check_long hr (by decide) rfl rfl (pa_c (p_var (pv 0)) pa_n) (lenS len0)))
    (ss_one (s_if (pt_not' (pt_tru (p_fn D_is_within hr (by decide) rfl rfl (pa_c (p_var (pv 1)) (pa_c (p_var (pv 2)) (pa_c (p_gint rfl ff.c_MOST_TRAILS) pa_n))) (lenS (lenS (lenS len0)))))) (ss_one s_never) ss_nil))))
/-! led_on -/
theorem sc_led_on : FnScope ["covers", "row", "found", "span", "lot", "later"] ["covers", "row"] (defScope (top 28)) := ⟨rfl, rfl, rfl, by decide +kernel, rfl, by decide +kernel, by decide +kernel⟩
def b_led_on : DS :=
    (dsSeq (dsSet .own 2 (dBin mulL (dLst (dCons (dC (.int 0)) dNil)) (dCall (un lenP) (dCons (dV 1) dNil))))
    (dsSeq (dsFor (dgT 2 (dgCons (dgN 3) (dgCons (dgN 4) dgNil))) (dItA enumP (dCons (dV 0) dNil)) (dsFor (dgN 5) (dIt (dV 4)) (dsAugIx addI 2 (dV 5) (dBin ixP (dV 1) (dV 3)))))
    (dsFrz 2 (dsRet (dV 2)))))
def d_led_on : List PV → HS → Option (PV × HS) := fnD 6 b_led_on
theorem ok_led_on {P : Program} {w : World} {K : PySem.W.Frag} {mg : Str → Option Value} {base : Heap} {f : Addr} {fd : FuncData} (ff : Facts mg)  (F : FnP K "led_on" (top 28) f fd) : FnOk P w K mg base CX0 1 f fd ["covers", "row"] (spD K 2 .fz d_led_on) :=
  fn_D (N := ["covers", "row", "found", "span", "lot", "later"]) F sc_led_on (by decide) md_fz (fun cdv A outer s H E F0 hd hr => (ss_cons (s_setO (p_op op_rep mulL_ok (p_lst (pa_c p_int pa_n)) (p_bi call_len len_ok rfl ff.f_len boot_len (pa_c (to_bw (p_var (pv 1))) pa_n))) sc_led_on.nd (i := 2) rfl (by first | exact Or.inl rfl | exact Or.inr rfl))
    (ss_cons (s_for PassesOwn.never rfl (i_enum_fz rfl ff.f_enumerate (pa_c (p_var (pv 0)) pa_n) len1) (g_tup rfl (gs_cons (g_name (pg_name (i := 3) sc_led_on.nd rfl (by first | exact Or.inl rfl | exact Or.inr rfl))) (gs_cons (g_name (pg_name (i := 4) sc_led_on.nd rfl (by first | exact Or.inl rfl | exact Or.inr rfl))) gs_nil))) (ss_one (s_for PassesOwn.never rfl (i_fz (p_var (pv 4))) (g_name (pg_name (i := 5) sc_led_on.nd rfl (by first | exact Or.inl rfl | exact Or.inr rfl))) (ss_one (s_augIx addI_o ip_add (pv 2) (p_var (pv 5)) (p_ix ix_seq ix_ok (p_var (pv 1)) (p_var (pv 3)) (fun _ _ => rfl)))))))
    (ss_frz 2 (ss_one (s_ret (p_var (pv 2))))))))
/-! trails_many -/
theorem sc_trails_many : FnScope ["word", "steps", "covers", "row", "turn"] ["word", "steps"] (defScope (top 29)) := ⟨rfl, rfl, rfl, by decide +kernel, rfl, by decide +kernel, by decide +kernel⟩
def b_trails_many : DS :=
    (dsSeq (dsDrop (dFn d_check_steps (dCons (dV 0) (dCons (dV 1) (dCons (dC (.int 0)) dNil)))))
    (dsSeq (dsSet .val 2 (dFn d_raw_covers (dCons (dV 0) dNil)))
    (dsSeq (dsSet .val 3 (dBin mulL (dLst (dCons (dC (.int 1)) dNil)) (dCall (un lenP) (dCons (dV 2) dNil))))
    (dsSeq (dsFor (dgN 4) (dItA rngP (dCons (dV 1) dNil)) (dsSet .val 3 (dFn d_led_on (dCons (dV 2) (dCons (dV 3) dNil)))))
    (dsRet (dCall (un sumP) (dCons (dV 3) dNil)))))))
def d_trails_many : List PV → HS → Option (PV × HS) := fnD 5 b_trails_many
theorem ok_trails_many {P : Program} {w : World} {K : PySem.W.Frag} {mg : Str → Option Value} {base : Heap} {f : Addr} {fd : FuncData} (ff : Facts mg) (D_raw_covers : OkD P w K mg base "raw_covers" 4 1 .fz d_raw_covers) (D_check_steps : OkD P w K mg base "check_steps" 6 3 .fz d_check_steps) (D_led_on : OkD P w K mg base "led_on" 1 2 .fz d_led_on) (F : FnP K "trails_many" (top 29) f fd) : FnOk P w K mg base CX0 7 f fd ["word", "steps"] (spD K 2 .fz d_trails_many) :=
  fn_D (N := ["word", "steps", "covers", "row", "turn"]) F sc_trails_many (by decide) md_fz (fun cdv A outer s H E F0 hd hr => (ss_cons (s_expr (p_fn D_check_steps hr (by decide) rfl rfl (pa_c (p_var (pv 0)) (pa_c (p_var (pv 1)) (pa_c p_int pa_n))) (lenS (lenS (lenS len0)))))
    (ss_cons (s_set (p_fn D_raw_covers hr (by decide) rfl rfl (pa_c (p_var (pv 0)) pa_n) (lenS len0)) sc_trails_many.nd (i := 2) rfl (by first | exact Or.inl rfl | exact Or.inr rfl))
    (ss_cons (s_set (fr_fz (p_op op_rep mulL_ok (p_lst (pa_c p_int pa_n)) (p_bi call_len len_ok rfl ff.f_len boot_len (pa_c (to_bw (p_var (pv 2))) pa_n)))) sc_trails_many.nd (i := 3) rfl (by first | exact Or.inl rfl | exact Or.inr rfl))
    (ss_cons (s_for PassesOwn.never rfl (i_range1 rfl ff.f_range (pa_c (to_bw (p_var (pv 1))) pa_n) len1) (g_name (pg_name (i := 4) sc_trails_many.nd rfl (by first | exact Or.inl rfl | exact Or.inr rfl))) (ss_one (s_set (p_fn D_led_on hr (by decide) rfl rfl (pa_c (p_var (pv 2)) (pa_c (p_var (pv 3)) pa_n)) (lenS (lenS len0))) sc_trails_many.nd (i := 3) rfl (by first | exact Or.inl rfl | exact Or.inr rfl))))
    (ss_one (s_ret (p_bi (cr_sum rfl) sum_ok rfl ff.f_sum boot_sum (pa_c (to_bw (p_var (pv 3))) pa_n)))))))))
/-! trace_by -/
theorem sc_trace_by : FnScope ["word", "steps", "span", "covers", "total", "row", "turn", "other"] ["word", "steps"] (defScope (top 30)) := ⟨rfl, rfl, rfl, by decide +kernel, rfl, by decide +kernel, by decide +kernel⟩
def b_trace_by : DS :=
    (dsSeq (dsDrop (dFn d_check_steps (dCons (dV 0) (dCons (dV 1) (dCons (dC (.int 1)) dNil)))))
    (dsSeq (dsPar .val .val 3 4 (dFn d_raw_covers (dCons (dV 0) dNil)) (dC (.int 0)))
    (dsSeq (dsFor (dgN 2) (dItA rngP (dCons (dCall (un lenP) (dCons (dV 3) dNil)) dNil)) (dsSeq (dsSet .val 5 (dLc [7] (dItA rngP (dCons (dCall (un lenP) (dCons (dV 3) dNil)) dNil)) (dgN 7) dYes (dCall (un intP) (dCons (dBin eqP (dV 7) (dV 2)) dNil))))
    (dsSeq (dsFor (dgN 6) (dItA rngP (dCons (dV 1) dNil)) (dsSet .val 5 (dFn d_led_on (dCons (dV 3) (dCons (dV 5) dNil)))))
    (dsAug addI 4 (dBin ixP (dV 5) (dV 2))))))
    (dsRet (dV 4)))))
def d_trace_by : List PV → HS → Option (PV × HS) := fnD 8 b_trace_by
theorem ok_trace_by {P : Program} {w : World} {K : PySem.W.Frag} {mg : Str → Option Value} {base : Heap} {f : Addr} {fd : FuncData} (ff : Facts mg) (D_raw_covers : OkD P w K mg base "raw_covers" 4 1 .fz d_raw_covers) (D_check_steps : OkD P w K mg base "check_steps" 6 3 .fz d_check_steps) (D_led_on : OkD P w K mg base "led_on" 1 2 .fz d_led_on) (F : FnP K "trace_by" (top 30) f fd) : FnOk P w K mg base CX0 7 f fd ["word", "steps"] (spD K 2 .fz d_trace_by) :=
  fn_D (N := ["word", "steps", "span", "covers", "total", "row", "turn", "other"]) F sc_trace_by (by decide) md_fz (fun cdv A outer s H E F0 hd hr => (ss_cons (s_expr (p_fn D_check_steps hr (by decide) rfl rfl (pa_c (p_var (pv 0)) (pa_c (p_var (pv 1)) (pa_c p_int pa_n))) (lenS (lenS (lenS len0)))))
    (ss_cons (s_par (m1 := .fz) (m2 := .fz) (.inl rfl) (.inl rfl) rfl sc_trace_by.nd (i := 3) (j := 4) rfl rfl (by decide) rfl rfl (p_fn D_raw_covers hr (by decide) rfl rfl (pa_c (p_var (pv 0)) pa_n) (lenS len0)) p_int rfl)
    (ss_cons (s_for PassesOwn.never rfl (i_range1 rfl ff.f_range (pa_c (to_bw (p_bi call_len len_ok rfl ff.f_len boot_len (pa_c (to_bw (p_var (pv 3))) pa_n))) pa_n) len1) (g_name (pg_name (i := 2) sc_trace_by.nd rfl (by first | exact Or.inl rfl | exact Or.inr rfl))) (ss_cons (s_setLc (own := [("other", 7)]) rfl sc_trace_by.nd (i := 5) rfl rfl (sw_true rfl rfl rfl (by decide +kernel)) (i_range1 rfl ff.f_range (pa_c (to_bw (p_bi call_len len_ok rfl ff.f_len boot_len (pa_c (to_bw (p_var (pv 3))) pa_n))) pa_n) len1) (blkOk_by (N := ["word", "steps", "span", "covers", "total", "row", "turn", "other"]) (sc := defScope (top 30)) (own := [("other", 7)]) (by decide +kernel)) (by decide) (fun _ _ _ _ _ => (g_name (pg_name (i := 7) sc_trace_by.nd rfl (by first | exact Or.inl rfl | exact Or.inr rfl)))) (fun _ _ _ _ _ => pts_y) (fun _ _ _ _ _ => (p_ty call_int1 int_ok rfl ff.f_int boot_int (pa_c (to_bw (p_cmp (op_eqD (u64 hr)) eq_ok (nomark _) (p_var (pv 7)) (p_var (pv 2)))) pa_n))))
    (ss_cons (s_for PassesOwn.never rfl (i_range1 rfl ff.f_range (pa_c (to_bw (p_var (pv 1))) pa_n) len1) (g_name (pg_name (i := 6) sc_trace_by.nd rfl (by first | exact Or.inl rfl | exact Or.inr rfl))) (ss_one (s_set (p_fn D_led_on hr (by decide) rfl rfl (pa_c (p_var (pv 3)) (pa_c (p_var (pv 5)) pa_n)) (lenS (lenS len0))) sc_trace_by.nd (i := 5) rfl (by first | exact Or.inl rfl | exact Or.inr rfl))))
    (ss_one (s_aug addI_o sc_trace_by.nd (i := 4) rfl (by first | exact Or.inl rfl | exact Or.inr rfl) (p_ix ix_seq ix_ok (p_var (pv 5)) (p_var (pv 2)) (fun _ _ => rfl)) ip_add)))))
    (ss_one (s_ret (p_var (pv 4))))))))
/-! growth_row -/
theorem sc_growth_row : FnScope ["word", "found", "sign"] ["word"] (defScope (top 31)) := ⟨rfl, rfl, rfl, by decide +kernel, rfl, by decide +kernel, by decide +kernel⟩
def b_growth_row : DS :=
    (dsSeq (dsDrop (dFn d_check_long (dCons (dV 0) dNil)))
    (dsSeq (dsSet .own 1 (dLst (dCons (dC (.int 1)) dNil)))
    (dsSeq (dsFor (dgN 2) (dIt (dSl slP (dV 0) dNo (dSo (dUn negP (dC (.int 1)))))) (dsMut 1 apP (dCons (dIf (dTru (dBin eqP (dV 2) (dC (.str [82])))) (dUn negP (dBin ixP (dO 1) (dUn negP (dC (.int 1))))) (dBin ixP (dO 1) (dUn negP (dC (.int 1))))) dNil)))
    (dsRet (dCall (un tupP) (dCons (dO 1) dNil))))))
def d_growth_row : List PV → HS → Option (PV × HS) := fnD 3 b_growth_row
theorem ok_growth_row {P : Program} {w : World} {K : PySem.W.Frag} {mg : Str → Option Value} {base : Heap} {f : Addr} {fd : FuncData} (ff : Facts mg) (D_check_long : OkD P w K mg base "check_long" 5 1 .fz d_check_long) (F : FnP K "growth_row" (top 31) f fd) : FnOk P w K mg base CX0 6 f fd ["word"] (spD K 1 .fz d_growth_row) :=
  fn_D (N := ["word", "found", "sign"]) F sc_growth_row (by decide) md_fz (fun cdv A outer s H E F0 hd hr => (ss_cons (s_expr (p_fn D_check_long hr (by decide) rfl rfl (pa_c (p_var (pv 0)) pa_n) (lenS len0)))
    (ss_cons (s_setO (p_lst (pa_c p_int pa_n)) sc_growth_row.nd (i := 1) rfl (by first | exact Or.inl rfl | exact Or.inr rfl))
    (ss_cons (s_for PassesOwn.never rfl (i_fz (p_sl sl_any sl_ok (p_var (pv 0)) po_n (po_s (p_un un_neg neg_ok p_int)))) (g_name (pg_name (i := 2) sc_growth_row.nd rfl (by first | exact Or.inl rfl | exact Or.inr rfl))) (ss_one (s_mut (.inl rfl) PySem.F.plainAttrs_list PySem.F.slot_list_append rfl mt_append apP_ok apP_l (pv 1) (pa_c (p_if (pt_cmp' (op_eqD (u64 hr)) eq_ok eqP_b (nomark _) (p_var (pv 2)) (p_gstr rfl ff.c_RIGHT (by decide +kernel))) (p_un un_neg neg_ok (p_ix ix_seq ix_ok (p_own (pv 1)) (p_un un_neg neg_ok p_int) (fun _ _ => rfl))) (p_ix ix_seq ix_ok (p_own (pv 1)) (p_un un_neg neg_ok p_int) (fun _ _ => rfl))) pa_n))))
    (ss_one (s_ret (p_ty call_tuple_of tup_ok rfl ff.f_tuple boot_tuple (pa_c (p_own (pv 1)) pa_n))))))))
/-! _law_hand -/
theorem sc__law_hand : FnScope ["script", "cells", "cell"] ["script"] (defScope (top 33)) := ⟨rfl, rfl, rfl, by decide +kernel, rfl, by decide +kernel, by decide +kernel⟩
def b__law_hand : DS :=
    (dsSeq (dsSet .val 1 (dLc [2] (dIt (dSl slP (dV 0) dNo (dSo (dC (.int 60))))) (dgN 2) dYes (dBin modP (dCall (un absP) (dCons (dCall (un intP) (dCons (dV 2) dNil)) dNil)) (dBin powP (dC (.int 10)) (dC (.int 36))))))
    (dsRet (dLst (dCons (dV 1) (dCons (dC (.int 0)) (dCons (dC (.int 0)) (dCons (dBin addP (dBin addP (dC (.int 18855)) (dBin mulP (dC (.int 31)) (dCall (un lenP) (dCons (dV 1) dNil)))) (dBin mulP (dC (.int 7919)) (dC (.int 15)))) (dCons (dC (.int 0)) dNil))))))))
def d__law_hand : List PV → HS → Option (PV × HS) := fnD 3 b__law_hand
theorem md__law_hand : ∀ (K : PySem.W.Frag) (hd : Option Addr) (He F H : Hp), RpM .fr K hd He F H .non .non ∨ (∀ ρ hs ρ' hs', b__law_hand ρ hs ≠ some (.nx ρ' hs')) := fun _ _ _ _ _ => .inr (nn_seq (nn_ret))
theorem ok__law_hand {P : Program} {w : World} {K : PySem.W.Frag} {mg : Str → Option Value} {base : Heap} {f : Addr} {fd : FuncData} (ff : Facts mg)  (F : FnP K "_law_hand" (top 33) f fd) : FnOk P w K mg base CX0 1 f fd ["script"] (spD K 1 .fr d__law_hand) :=
  fn_D (N := ["script", "cells", "cell"]) F sc__law_hand (by decide) md__law_hand (fun cdv A outer s H E F0 hd hr => (ss_cons (s_setLc (own := [("cell", 2)]) rfl sc__law_hand.nd (i := 1) rfl rfl (sw_true rfl rfl rfl (by decide +kernel)) (i_bw (to_bw (p_sl sl_any sl_ok (p_var (pv 0)) po_n (po_s p_int)))) (blkOk_by (N := ["script", "cells", "cell"]) (sc := defScope (top 33)) (own := [("cell", 2)]) (by decide +kernel)) (by decide) (fun _ _ _ _ _ => (g_name (pg_name (i := 2) sc__law_hand.nd rfl (by first | exact Or.inl rfl | exact Or.inr rfl)))) (fun _ _ _ _ _ => pts_y) (fun _ _ _ _ _ => (p_op op_mod mod_ok (p_bi call_abs abs_ok rfl ff.f_abs boot_abs (pa_c (to_bw (p_ty call_int1 int_ok rfl ff.f_int boot_int (pa_c (to_bw (p_var (pv 2))) pa_n))) pa_n)) (p_op op_pow pow_ok p_int p_int))))
    (ss_one (s_ret (p_lst (pa_c (p_var (pv 1)) (pa_c p_int (pa_c p_int (pa_c (p_op op_addA add_ok (p_op op_addA add_ok p_int (p_op op_mulA mul_ok p_int (p_bi call_len len_ok rfl ff.f_len boot_len (pa_c (to_bw (p_var (pv 1))) pa_n)))) (p_op op_mulA mul_ok p_int p_int)) (pa_c p_int pa_n))))))))))
/-! _law_draw -/
theorem sc__law_draw : FnScope ["hand", "many", "number", "cell", "digit"] ["hand", "many"] (defScope (top 34)) := ⟨rfl, rfl, rfl, by decide +kernel, rfl, by decide +kernel, by decide +kernel⟩
def b__law_draw : DS :=
    (dsSeq (dsIf (dAnd (dTru (dBin eqP (dHx 0 2) (dC (.int 0)))) (dTru (dBin ltP (dHx 0 1) (dCall (un lenP) (dCons (dHx 0 0) dNil))))) (dsSeq (dsSet .val 3 (dBin ixP (dHx 0 0) (dHx 0 1)))
    (dsSeq (dsH 0 1 (dBin addP (dHx 0 1) (dC (.int 1))))
    (dsSeq (dsH 0 3 (dBin modP (dCall (un intP) (dCons (dBin addP (dBin addP (dBin mulP (dHx 0 3) (dC (.int 48271))) (dBin mulP (dBin modP (dV 3) (dC (.int 2147483629))) (dC (.int 69621)))) (dC (.int 23))) dNil)) (dC (.int 2147483629))))
    (dsIf (dTru (dBin geP (dV 3) (dBin powP (dC (.int 10)) (dC (.int 15))))) (dsH 0 2 (dV 3)) dsSkip)))) dsSkip)
    (dsSeq (dsIf (dTru (dBin gtP (dHx 0 2) (dC (.int 0)))) (dsSeq (dsSet .val 4 (dBin modP (dCall (un intP) (dCons (dHx 0 2) dNil)) (dV 1)))
    (dsSeq (dsH 0 2 (dBin fdivP (dHx 0 2) (dV 1)))
    (dsRet (dV 4)))) dsSkip)
    (dsSeq (dsH 0 4 (dBin addP (dHx 0 4) (dC (.int 1))))
    (dsSeq (dsSet .val 2 (dBin modP (dCall (un intP) (dCons (dBin mulP (dCall (un intP) (dCons (dBin addP (dHx 0 3) (dBin mulP (dC (.int 7907)) (dHx 0 4))) dNil)) (dC (.int 40692))) dNil)) (dC (.int 2147483399))))
    (dsSeq (dsSet .val 2 (dBin modP (dCall (un intP) (dCons (dBin mulP (dV 2) (dBin addP (dBin fdivP (dV 2) (dC (.int 1009))) (dC (.int 30011)))) dNil)) (dC (.int 2147483647))))
    (dsRet (dBin modP (dCall (un intP) (dCons (dBin fdivP (dV 2) (dC (.int 32))) dNil)) (dV 1))))))))
def d__law_draw : List PV → HS → Option (PV × HS) := fnD 5 b__law_draw
theorem ok__law_draw {P : Program} {w : World} {K : PySem.W.Frag} {mg : Str → Option Value} {base : Heap} {f : Addr} {fd : FuncData} (ff : Facts mg)  (F : FnP K "_law_draw" (top 34) f fd) : FnOk P w K mg base CX0 1 f fd ["hand", "many"] (spD K 2 .fz d__law_draw) :=
  fn_D (N := ["hand", "many", "number", "cell", "digit"]) F sc__law_draw (by decide) md_fz (fun cdv A outer s H E F0 hd hr => (ss_cons (s_if (PW.pt (pw_a (pt_cmp' (op_eqD (u64 hr)) eq_ok eqP_b (nomark _) (p_hx 2 rfl (pv 0) (fun _ _ => rfl)) p_int) (pw_a1 (pt_cmp' op_ltA lt_ok ltP_b (nomark _) (p_hx 1 rfl (pv 0) (fun _ _ => rfl)) (p_bi call_len len_ok rfl ff.f_len boot_len (pa_c (to_bw (p_hx 0 rfl (pv 0) (fun _ _ => rfl))) pa_n)))))) (ss_cons (s_set (p_ix ix_seq ix_ok (p_hx 0 rfl (pv 0) (fun _ _ => rfl)) (p_hx 1 rfl (pv 0) (fun _ _ => rfl)) (fun _ _ => rfl)) sc__law_draw.nd (i := 3) rfl (by first | exact Or.inl rfl | exact Or.inr rfl))
    (ss_cons (s_h 1 rfl (pv 0) (p_op op_addA add_ok (p_hx 1 rfl (pv 0) (fun _ _ => rfl)) p_int))
    (ss_cons (s_h 3 rfl (pv 0) (p_op op_mod mod_ok (p_ty call_int1 int_ok rfl ff.f_int boot_int (pa_c (to_bw (p_op op_addA add_ok (p_op op_addA add_ok (p_op op_mulA mul_ok (p_hx 3 rfl (pv 0) (fun _ _ => rfl)) p_int) (p_op op_mulA mul_ok (p_op op_mod mod_ok (p_var (pv 3)) p_int) p_int)) p_int)) pa_n)) p_int))
    (ss_one (s_if (pt_cmp' op_geA ge_ok geP_b (nomark _) (p_var (pv 3)) (p_op op_pow pow_ok p_int p_int)) (ss_one (s_h 2 rfl (pv 0) (p_var (pv 3)))) ss_nil))))) ss_nil)
    (ss_cons (s_if (pt_cmp' op_gtA gt_ok gtP_b (nomark _) (p_hx 2 rfl (pv 0) (fun _ _ => rfl)) p_int) (ss_cons (s_set (p_op op_mod mod_ok (p_ty call_int1 int_ok rfl ff.f_int boot_int (pa_c (to_bw (p_hx 2 rfl (pv 0) (fun _ _ => rfl))) pa_n)) (p_var (pv 1))) sc__law_draw.nd (i := 4) rfl (by first | exact Or.inl rfl | exact Or.inr rfl))
    (ss_cons (s_h 2 rfl (pv 0) (p_op op_fdivW fdiv_ok (p_hx 2 rfl (pv 0) (fun _ _ => rfl)) (p_var (pv 1))))
    (ss_one (s_ret (p_var (pv 4)))))) ss_nil)
    (ss_cons (s_h 4 rfl (pv 0) (p_op op_addA add_ok (p_hx 4 rfl (pv 0) (fun _ _ => rfl)) p_int))
    (ss_cons (s_set (p_op op_mod mod_ok (p_ty call_int1 int_ok rfl ff.f_int boot_int (pa_c (to_bw (p_op op_mulA mul_ok (p_ty call_int1 int_ok rfl ff.f_int boot_int (pa_c (to_bw (p_op op_addA add_ok (p_hx 3 rfl (pv 0) (fun _ _ => rfl)) (p_op op_mulA mul_ok p_int (p_hx 4 rfl (pv 0) (fun _ _ => rfl))))) pa_n)) p_int)) pa_n)) p_int) sc__law_draw.nd (i := 2) rfl (by first | exact Or.inl rfl | exact Or.inr rfl))
    (ss_cons (s_set (p_op op_mod mod_ok (p_ty call_int1 int_ok rfl ff.f_int boot_int (pa_c (to_bw (p_op op_mulA mul_ok (p_var (pv 2)) (p_op op_addA add_ok (p_op op_fdivW fdiv_ok (p_var (pv 2)) p_int) p_int))) pa_n)) p_int) sc__law_draw.nd (i := 2) rfl (by first | exact Or.inl rfl | exact Or.inr rfl))
    (ss_one (s_ret (p_op op_mod mod_ok (p_ty call_int1 int_ok rfl ff.f_int boot_int (pa_c (to_bw (p_op op_fdivW fdiv_ok (p_var (pv 2)) p_int)) pa_n)) (p_var (pv 1)))))))))))
/-! _law_any -/
theorem sc__law_any : FnScope ["hand", "some"] ["hand", "some"] (defScope (top 35)) := ⟨rfl, rfl, rfl, by decide +kernel, rfl, by decide +kernel, by decide +kernel⟩
def b__law_any : DS :=
    (dsRet (dBin ixP (dV 1) (dFn d__law_draw (dCons (dV 0) (dCons (dCall (un lenP) (dCons (dV 1) dNil)) dNil)))))
def d__law_any : List PV → HS → Option (PV × HS) := fnD 2 b__law_any
theorem ok__law_any {P : Program} {w : World} {K : PySem.W.Frag} {mg : Str → Option Value} {base : Heap} {f : Addr} {fd : FuncData} (ff : Facts mg) (D__law_draw : OkD P w K mg base "_law_draw" 1 2 .fz d__law_draw) (F : FnP K "_law_any" (top 35) f fd) : FnOk P w K mg base CX0 2 f fd ["hand", "some"] (spD K 2 .fz d__law_any) :=
  fn_D (N := ["hand", "some"]) F sc__law_any (by decide) md_fz (fun cdv A outer s H E F0 hd hr => (ss_one (s_ret (p_ix ix_seq ix_ok (p_var (pv 1)) (p_fn D__law_draw hr (by decide) rfl rfl (pa_c (p_var (pv 0)) (pa_c (p_bi call_len len_ok rfl ff.f_len boot_len (pa_c (to_bw (p_var (pv 1))) pa_n)) pa_n)) (lenS (lenS len0))) (fun _ _ => rfl)))))
/-! _law_is -/
theorem sc__law_is : FnScope ["told", "due"] ["told", "due"] (defScope (top 36)) := ⟨rfl, rfl, rfl, by decide +kernel, rfl, by decide +kernel, by decide +kernel⟩
def b__law_is : DS :=
    (dsRet (dBin eqS (dCall (un reprP) (dCons (dV 0) dNil)) (dCall (un reprP) (dCons (dV 1) dNil))))
def d__law_is : List PV → HS → Option (PV × HS) := fnD 2 b__law_is
theorem ok__law_is {P : Program} {w : World} {K : PySem.W.Frag} {mg : Str → Option Value} {base : Heap} {f : Addr} {fd : FuncData} (ff : Facts mg)  (F : FnP K "_law_is" (top 36) f fd) : FnG P w K mg base CX0 1 f fd ["told", "due"] (spD K 2 .fz d__law_is) :=
  fn_G (N := ["told", "due"]) F sc__law_is (by decide) md_fz (fun cdv A outer s H E F0 hd hA hr => (ss_one (s_ret (p_cmp op_eq eqS_ok (nomark _) (p_bi (call_reprD (u64 hr) hA) repr_ok rfl ff.f_repr boot_repr (pa_c (to_bw (p_var (pv 0))) pa_n)) (p_bi (call_reprD (u64 hr) hA) repr_ok rfl ff.f_repr boot_repr (pa_c (to_bw (p_var (pv 1))) pa_n))))))
/-! _law_low -/
theorem sc__law_low : FnScope ["top", "bottom", "one", "other"] ["top", "bottom"] (defScope (top 37)) := ⟨rfl, rfl, rfl, by decide +kernel, rfl, by decide +kernel, by decide +kernel⟩
def b__law_low : DS :=
    (dsSeq (dsPar .val .val 2 3 (dCall (un absP) (dCons (dV 0) dNil)) (dV 1))
    (dsSeq (dsWhile (dTru (dBin gtP (dV 3) (dC (.int 0)))) (dsPar .val .val 2 3 (dV 3) (dBin modP (dCall (un intP) (dCons (dV 2) dNil)) (dV 3))))
    (dsRet (dTup (dCons (dBin fdivP (dV 0) (dV 2)) (dCons (dBin fdivP (dV 1) (dV 2)) dNil))))))
def d__law_low : List PV → HS → Option (PV × HS) := fnD 4 b__law_low
theorem ok__law_low {P : Program} {w : World} {K : PySem.W.Frag} {mg : Str → Option Value} {base : Heap} {f : Addr} {fd : FuncData} (ff : Facts mg)  (F : FnP K "_law_low" (top 37) f fd) : FnOk P w K mg base CX0 1 f fd ["top", "bottom"] (spD K 2 .fz d__law_low) :=
  fn_D (N := ["top", "bottom", "one", "other"]) F sc__law_low (by decide) md_fz (fun cdv A outer s H E F0 hd hr => (ss_cons (s_par (m1 := .fz) (m2 := .fz) (.inl rfl) (.inl rfl) rfl sc__law_low.nd (i := 2) (j := 3) rfl rfl (by decide) rfl rfl (p_bi call_abs abs_ok rfl ff.f_abs boot_abs (pa_c (to_bw (p_var (pv 0))) pa_n)) (p_var (pv 1)) rfl)
    (ss_cons (s_while PassesOwn.never (pt_cmp' op_gtA gt_ok gtP_b (nomark _) (p_var (pv 3)) p_int) (ss_one (s_par (m1 := .fz) (m2 := .fz) (.inl rfl) (.inl rfl) rfl sc__law_low.nd (i := 2) (j := 3) rfl rfl (by decide) rfl rfl (p_var (pv 3)) (p_op op_mod mod_ok (p_ty call_int1 int_ok rfl ff.f_int boot_int (pa_c (to_bw (p_var (pv 2))) pa_n)) (p_var (pv 3))) rfl)))
    (ss_one (s_ret (p_tup (pa_c (p_op op_fdivW fdiv_ok (p_var (pv 0)) (p_var (pv 2))) (pa_c (p_op op_fdivW fdiv_ok (p_var (pv 1)) (p_var (pv 2))) pa_n))))))))
/-! _law_less -/
theorem sc__law_less : FnScope ["one", "other"] ["one", "other"] (defScope (top 38)) := ⟨rfl, rfl, rfl, by decide +kernel, rfl, by decide +kernel, by decide +kernel⟩
def b__law_less : DS :=
    (dsRet (dBin ltP (dBin mulP (dBin ixP (dV 0) (dC (.int 0))) (dBin ixP (dV 1) (dC (.int 1)))) (dBin mulP (dBin ixP (dV 1) (dC (.int 0))) (dBin ixP (dV 0) (dC (.int 1))))))
def d__law_less : List PV → HS → Option (PV × HS) := fnD 2 b__law_less
theorem ok__law_less {P : Program} {w : World} {K : PySem.W.Frag} {mg : Str → Option Value} {base : Heap} {f : Addr} {fd : FuncData} (ff : Facts mg)  (F : FnP K "_law_less" (top 38) f fd) : FnOk P w K mg base CX0 1 f fd ["one", "other"] (spD K 2 .fz d__law_less) :=
  fn_D (N := ["one", "other"]) F sc__law_less (by decide) md_fz (fun cdv A outer s H E F0 hd hr => (ss_one (s_ret (p_cmp op_ltA lt_ok (nomark _) (p_op op_mulA mul_ok (p_ix ix_seq ix_ok (p_var (pv 0)) p_int (fun _ _ => rfl)) (p_ix ix_seq ix_ok (p_var (pv 1)) p_int (fun _ _ => rfl))) (p_op op_mulA mul_ok (p_ix ix_seq ix_ok (p_var (pv 1)) p_int (fun _ _ => rfl)) (p_ix ix_seq ix_ok (p_var (pv 0)) p_int (fun _ _ => rfl)))))))
/-! _law_is_less -/
theorem sc__law_is_less : FnScope ["one", "other", "at", "is_up"] ["one", "other"] (defScope (top 39)) := ⟨rfl, rfl, rfl, by decide +kernel, rfl, by decide +kernel, by decide +kernel⟩
def b__law_is_less : DS :=
    (dsSeq (dsFor (dgN 2) (dItA rngP (dCons (dCall (bi min2P) (dCons (dCall (un lenP) (dCons (dV 0) dNil)) (dCons (dCall (un lenP) (dCons (dV 1) dNil)) dNil))) dNil)) (dsIf (dTru (dBin neP (dBin ixP (dV 0) (dV 2)) (dBin ixP (dV 1) (dV 2)))) (dsSeq (dsSet .val 3 (dBin ltP (dMth sixP (dC (.str [76, 67, 82])) (dCons (dBin ixP (dV 0) (dV 2)) dNil)) (dMth sixP (dC (.str [76, 67, 82])) (dCons (dBin ixP (dV 1) (dV 2)) dNil))))
    (dsRet (dBin eqP (dV 3) (dBin eqP (dBin modP (dCall (un intP) (dCons (dMth cntP (dSl slP (dV 0) dNo (dSo (dV 2))) (dCons (dC (.str [82])) dNil)) dNil)) (dC (.int 2))) (dC (.int 0)))))) dsSkip))
    (dsRet (dC (.bl false))))
def d__law_is_less : List PV → HS → Option (PV × HS) := fnD 4 b__law_is_less
theorem ok__law_is_less {P : Program} {w : World} {K : PySem.W.Frag} {mg : Str → Option Value} {base : Heap} {f : Addr} {fd : FuncData} (ff : Facts mg)  (F : FnP K "_law_is_less" (top 39) f fd) : FnOk P w K mg base CX0 1 f fd ["one", "other"] (spD K 2 .fz d__law_is_less) :=
  fn_D (N := ["one", "other", "at", "is_up"]) F sc__law_is_less (by decide) md_fz (fun cdv A outer s H E F0 hd hr => (ss_cons (s_for PassesOwn.never rfl (i_range1 rfl ff.f_range (pa_c (to_bw (p_bi (call_min2 rfl) min2_ok rfl ff.f_min boot_min (pa_c (to_bw (p_bi call_len len_ok rfl ff.f_len boot_len (pa_c (to_bw (p_var (pv 0))) pa_n))) (pa_c (to_bw (p_bi call_len len_ok rfl ff.f_len boot_len (pa_c (to_bw (p_var (pv 1))) pa_n))) pa_n)))) pa_n) len1) (g_name (pg_name (i := 2) sc__law_is_less.nd rfl (by first | exact Or.inl rfl | exact Or.inr rfl))) (ss_one (s_if (pt_cmp' (op_neD (u64 hr)) ne_ok neP_b (nomark _) (p_ix ix_seq ix_ok (p_var (pv 0)) (p_var (pv 2)) (fun _ _ => rfl)) (p_ix ix_seq ix_ok (p_var (pv 1)) (p_var (pv 2)) (fun _ _ => rfl))) (ss_cons (s_set (p_cmp op_ltA lt_ok (nomark _) (p_mth PySem.F.plainAttrs_str PySem.F.slot_str_index rfl mt_sindex six_ok (str_ty sixP_s) (p_str (by decide +kernel)) (pa_c (to_bw (p_ix ix_seq ix_ok (p_var (pv 0)) (p_var (pv 2)) (fun _ _ => rfl))) pa_n)) (p_mth PySem.F.plainAttrs_str PySem.F.slot_str_index rfl mt_sindex six_ok (str_ty sixP_s) (p_str (by decide +kernel)) (pa_c (to_bw (p_ix ix_seq ix_ok (p_var (pv 1)) (p_var (pv 2)) (fun _ _ => rfl))) pa_n))) sc__law_is_less.nd (i := 3) rfl (by first | exact Or.inl rfl | exact Or.inr rfl))
    (ss_one (s_ret (p_cmp (op_eqD (u64 hr)) eq_ok (nomark _) (p_var (pv 3)) (p_cmp (op_eqD (u64 hr)) eq_ok (nomark _) (p_op op_mod mod_ok (p_ty call_int1 int_ok rfl ff.f_int boot_int (pa_c (to_bw (p_mth PySem.F.plainAttrs_str PySem.F.slot_str_count rfl mt_count cnt_ok (str_ty cntP_s) (p_sl sl_any sl_ok (p_var (pv 0)) po_n (po_s (p_var (pv 2)))) (pa_c (to_bw (p_str (by decide +kernel))) pa_n))) pa_n)) p_int) p_int))))) ss_nil)))
    (ss_one (s_ret p_bl))))
/-! _law_shifts -/
theorem sc__law_shifts : FnScope ["word", "k"] ["word"] (defScope (top 40)) := ⟨rfl, rfl, rfl, by decide +kernel, rfl, by decide +kernel, by decide +kernel⟩
def b__law_shifts : DS :=
    (dsRet (dLc [1] (dItA rngP (dCons (dC (.int 1)) (dCons (dCall (un lenP) (dCons (dV 0) dNil)) dNil))) (dgN 1) (dNot (dTru (dFn d__law_is_less (dCons (dSl slP (dV 0) (dSo (dV 1)) dNo) (dCons (dV 0) dNil))))) (dV 1)))
def d__law_shifts : List PV → HS → Option (PV × HS) := fnD 2 b__law_shifts
theorem ok__law_shifts {P : Program} {w : World} {K : PySem.W.Frag} {mg : Str → Option Value} {base : Heap} {f : Addr} {fd : FuncData} (ff : Facts mg) (D__law_is_less : OkD P w K mg base "_law_is_less" 1 2 .fz d__law_is_less) (F : FnP K "_law_shifts" (top 40) f fd) : FnOk P w K mg base CX0 2 f fd ["word"] (spD K 1 .fz d__law_shifts) :=
  fn_D (N := ["word", "k"]) F sc__law_shifts (by decide) md_fz (fun cdv A outer s H E F0 hd hr => (ss_one (s_ret (fr_fz (p_lc (own := [("k", 1)]) rfl sc__law_shifts.nd (i_range2 rfl ff.f_range (pa_c (to_bw p_int) (pa_c (to_bw (p_bi call_len len_ok rfl ff.f_len boot_len (pa_c (to_bw (p_var (pv 0))) pa_n))) pa_n)) len2) (blkOk_by (N := ["word", "k"]) (sc := defScope (top 40)) (own := [("k", 1)]) (by decide +kernel)) (by decide) (fun _ _ _ _ _ => (g_name (pg_name (i := 1) sc__law_shifts.nd rfl (by first | exact Or.inl rfl | exact Or.inr rfl)))) (fun _ _ _ _ _ => (pts_1 (pt_not' (pt_tru (p_fn D__law_is_less hr (by decide) rfl rfl (pa_c (p_sl sl_any sl_ok (p_var (pv 0)) (po_s (p_var (pv 1))) po_n) (pa_c (p_var (pv 0)) pa_n)) (lenS (lenS len0))))))) (fun _ _ _ _ _ => (p_var (pv 1))))))))
/-! _law_longer -/
theorem sc__law_longer : FnScope ["rows", "found", "row", "sign"] ["rows"] (defScope (top 42)) := ⟨rfl, rfl, rfl, by decide +kernel, rfl, by decide +kernel, by decide +kernel⟩
def b__law_longer : DS :=
    (dsSeq (dsSet .own 1 (dLst dNil))
    (dsSeq (dsFor (dgN 2) (dIt (dV 0)) (dsMut 1 exP (dCons (dLc [3] (dIt (dC (.str [76, 82]))) (dgN 3) dYes (dBin addP (dV 2) (dV 3))) dNil)))
    (dsFrz 1 (dsRet (dV 1)))))
def d__law_longer : List PV → HS → Option (PV × HS) := fnD 4 b__law_longer
theorem ok__law_longer {P : Program} {w : World} {K : PySem.W.Frag} {mg : Str → Option Value} {base : Heap} {f : Addr} {fd : FuncData} (ff : Facts mg)  (F : FnP K "_law_longer" (top 42) f fd) : FnOk P w K mg base CX0 1 f fd ["rows"] (spD K 1 .fz d__law_longer) :=
  fn_D (N := ["rows", "found", "row", "sign"]) F sc__law_longer (by decide) md_fz (fun cdv A outer s H E F0 hd hr => (ss_cons (s_setO (p_lst pa_n) sc__law_longer.nd (i := 1) rfl (by first | exact Or.inl rfl | exact Or.inr rfl))
    (ss_cons (s_for PassesOwn.never rfl (i_fz (p_var (pv 0))) (g_name (pg_name (i := 2) sc__law_longer.nd rfl (by first | exact Or.inl rfl | exact Or.inr rfl))) (ss_one (s_mut (.inr rfl) PySem.F.plainAttrs_list PySem.F.slot_list_extend rfl mt_extend exP_ok exP_l (pv 1) (pa_c (to_bw (p_lc (own := [("sign", 3)]) rfl sc__law_longer.nd (i_bw (to_bw (p_str (by decide +kernel)))) (blkOk_by (N := ["rows", "found", "row", "sign"]) (sc := defScope (top 42)) (own := [("sign", 3)]) (by decide +kernel)) (by decide) (fun _ _ _ _ _ => (g_name (pg_name (i := 3) sc__law_longer.nd rfl (by first | exact Or.inl rfl | exact Or.inr rfl)))) (fun _ _ _ _ _ => pts_y) (fun _ _ _ _ _ => (p_op op_addA add_ok (p_var (pv 2)) (p_var (pv 3)))))) pa_n))))
    (ss_frz 1 (ss_one (s_ret (p_var (pv 1))))))))
/-! _law_all -/
theorem sc__law_all : FnScope ["size", "rows", "turn", "found", "ordered", "word", "at", "row", "other"] ["size"] (defScope (top 41)) := ⟨rfl, rfl, rfl, by decide +kernel, rfl, by decide +kernel, by decide +kernel⟩
def b__law_all : DS :=
    (dsSeq (dsSet .val 1 (dLst (dCons (dC (.str [])) dNil)))
    (dsSeq (dsFor (dgN 2) (dItA rngP (dCons (dBin subP (dV 0) (dC (.int 1))) dNil)) (dsSet .val 1 (dFn d__law_longer (dCons (dV 1) dNil))))
    (dsSeq (dsSet .val 3 (dLc [7] (dIt (dV 1)) (dgN 7) (dTru (dBin eqP (dFn d__law_shifts (dCons (dBin addP (dV 7) (dC (.str [67]))) dNil)) (dLst dNil))) (dBin addP (dV 7) (dC (.str [67])))))
    (dsSeq (dsSet .own 4 (dLst dNil))
    (dsSeq (dsFor (dgN 5) (dIt (dV 3)) (dsSeq (dsSet .val 6 (dCall (un lenP) (dCons (dLc [8] (dIt (dO 4)) (dgN 8) (dTru (dFn d__law_is_less (dCons (dV 8) (dCons (dV 5) dNil)))) (dV 8)) dNil)))
    (dsMut 4 inP (dCons (dV 6) (dCons (dV 5) dNil)))))
    (dsFrz 4 (dsRet (dV 4))))))))
def d__law_all : List PV → HS → Option (PV × HS) := fnD 9 b__law_all
theorem ok__law_all {P : Program} {w : World} {K : PySem.W.Frag} {mg : Str → Option Value} {base : Heap} {f : Addr} {fd : FuncData} (ff : Facts mg) (D__law_is_less : OkD P w K mg base "_law_is_less" 1 2 .fz d__law_is_less) (D__law_shifts : OkD P w K mg base "_law_shifts" 2 1 .fz d__law_shifts) (D__law_longer : OkD P w K mg base "_law_longer" 1 1 .fz d__law_longer) (F : FnP K "_law_all" (top 41) f fd) : FnOk P w K mg base CX0 3 f fd ["size"] (spD K 1 .fz d__law_all) :=
  fn_D (N := ["size", "rows", "turn", "found", "ordered", "word", "at", "row", "other"]) F sc__law_all (by decide) md_fz (fun cdv A outer s H E F0 hd hr => (ss_cons (s_set (fr_fz (p_lst (pa_c (p_str (by decide +kernel)) pa_n))) sc__law_all.nd (i := 1) rfl (by first | exact Or.inl rfl | exact Or.inr rfl))
    (ss_cons (s_for PassesOwn.never rfl (i_range1 rfl ff.f_range (pa_c (to_bw (p_op op_sub sub_ok (p_var (pv 0)) p_int)) pa_n) len1) (g_name (pg_name (i := 2) sc__law_all.nd rfl (by first | exact Or.inl rfl | exact Or.inr rfl))) (ss_one (s_set (p_fn D__law_longer hr (by decide) rfl rfl (pa_c (p_var (pv 1)) pa_n) (lenS len0)) sc__law_all.nd (i := 1) rfl (by first | exact Or.inl rfl | exact Or.inr rfl))))
    (ss_cons (s_setLc (own := [("row", 7)]) rfl sc__law_all.nd (i := 3) rfl rfl (sw_true rfl rfl rfl (by decide +kernel)) (i_bw (to_bw (p_var (pv 1)))) (blkOk_by (N := ["size", "rows", "turn", "found", "ordered", "word", "at", "row", "other"]) (sc := defScope (top 41)) (own := [("row", 7)]) (by decide +kernel)) (by decide) (fun _ _ _ _ _ => (g_name (pg_name (i := 7) sc__law_all.nd rfl (by first | exact Or.inl rfl | exact Or.inr rfl)))) (fun _ _ _ _ _ => (pts_1 (pt_cmp' (op_eqD (u64 hr)) eq_ok eqP_b (nomark _) (p_fn D__law_shifts hr (by decide) rfl rfl (pa_c (p_op op_addA add_ok (p_var (pv 7)) (p_str (by decide +kernel))) pa_n) (lenS len0)) (p_lst pa_n)))) (fun _ _ _ _ _ => (p_op op_addA add_ok (p_var (pv 7)) (p_str (by decide +kernel)))))
    (ss_cons (s_setO (p_lst pa_n) sc__law_all.nd (i := 4) rfl (by first | exact Or.inl rfl | exact Or.inr rfl))
    (ss_cons (s_for PassesOwn.never rfl (i_fz (p_var (pv 3))) (g_name (pg_name (i := 5) sc__law_all.nd rfl (by first | exact Or.inl rfl | exact Or.inr rfl))) (ss_cons (s_set (p_bi call_len len_ok rfl ff.f_len boot_len (pa_c (to_bw (p_lc (own := [("other", 8)]) rfl sc__law_all.nd (i_bw (p_own (pv 4))) (blkOk_by (N := ["size", "rows", "turn", "found", "ordered", "word", "at", "row", "other"]) (sc := defScope (top 41)) (own := [("other", 8)]) (by decide +kernel)) (by decide) (fun _ _ _ _ _ => (g_name (pg_name (i := 8) sc__law_all.nd rfl (by first | exact Or.inl rfl | exact Or.inr rfl)))) (fun _ _ _ _ _ => (pts_1 (pt_tru (p_fn D__law_is_less hr (by decide) rfl rfl (pa_c (p_var (pv 8)) (pa_c (p_var (pv 5)) pa_n)) (lenS (lenS len0)))))) (fun _ _ _ _ _ => (p_var (pv 8))))) pa_n)) sc__law_all.nd (i := 6) rfl (by first | exact Or.inl rfl | exact Or.inr rfl))
    (ss_one (s_mut (.inl rfl) PySem.F.plainAttrs_list PySem.F.slot_list_insert rfl mt_insert inP_ok inP_l (pv 4) (pa_c (p_var (pv 6)) (pa_c (p_var (pv 5)) pa_n))))))
    (ss_frz 4 (ss_one (s_ret (p_var (pv 4)))))))))))
/-! _law_star -/
theorem sc__law_star : FnScope ["one", "other", "turned", "sign", "front", "found"] ["one", "other"] (defScope (top 43)) := ⟨rfl, rfl, rfl, by decide +kernel, rfl, by decide +kernel, by decide +kernel⟩
def b__law_star : DS :=
    (dsSeq (dsPar .val .val 4 5 (dSl slP (dV 0) dNo (dSo (dUn negP (dC (.int 1))))) (dC (.str [])))
    (dsSeq (dsSet .val 2 (dDisp (dPc (dC (.str [76])) (dC (.str [82])) (dPc (dC (.str [82])) (dC (.str [76])) (dPc (dC (.str [67])) (dC (.str [67])) dPn)))))
    (dsSeq (dsFor (dgN 3) (dIt (dV 1)) (dsSet .val 5 (dBin addP (dBin addP (dV 5) (dV 4)) (dIf (dTru (dBin eqP (dBin modP (dCall (un intP) (dCons (dMth cntP (dV 4) (dCons (dC (.str [82])) dNil)) dNil)) (dC (.int 2))) (dC (.int 1)))) (dBin dgP (dV 2) (dV 3)) (dV 3)))))
    (dsRet (dV 5)))))
def d__law_star : List PV → HS → Option (PV × HS) := fnD 6 b__law_star
theorem ok__law_star {P : Program} {w : World} {K : PySem.W.Frag} {mg : Str → Option Value} {base : Heap} {f : Addr} {fd : FuncData} (ff : Facts mg)  (F : FnP K "_law_star" (top 43) f fd) : FnOk P w K mg base CX0 1 f fd ["one", "other"] (spD K 2 .fz d__law_star) :=
  fn_D (N := ["one", "other", "turned", "sign", "front", "found"]) F sc__law_star (by decide) md_fz (fun cdv A outer s H E F0 hd hr => (ss_cons (s_par (m1 := .fz) (m2 := .fz) (.inl rfl) (.inl rfl) rfl sc__law_star.nd (i := 4) (j := 5) rfl rfl (by decide) rfl rfl (p_sl sl_any sl_ok (p_var (pv 0)) po_n (po_s (p_un un_neg neg_ok p_int))) (p_str (by decide +kernel)) rfl)
    (ss_cons (s_set (fr_fz (p_disp (pd_c (p_str (by decide +kernel)) (p_str (by decide +kernel)) (pd_c (p_str (by decide +kernel)) (p_str (by decide +kernel)) (pd_c (p_str (by decide +kernel)) (p_str (by decide +kernel)) pd_n))))) sc__law_star.nd (i := 2) rfl (by first | exact Or.inl rfl | exact Or.inr rfl))
    (ss_cons (s_for PassesOwn.never rfl (i_fz (p_var (pv 1))) (g_name (pg_name (i := 3) sc__law_star.nd rfl (by first | exact Or.inl rfl | exact Or.inr rfl))) (ss_one (s_set (p_op op_addA add_ok (p_op op_addA add_ok (p_var (pv 5)) (p_var (pv 4))) (p_if (pt_cmp' (op_eqD (u64 hr)) eq_ok eqP_b (nomark _) (p_op op_mod mod_ok (p_ty call_int1 int_ok rfl ff.f_int boot_int (pa_c (to_bw (p_mth PySem.F.plainAttrs_str PySem.F.slot_str_count rfl mt_count cnt_ok (str_ty cntP_s) (p_var (pv 4)) (pa_c (to_bw (p_str (by decide +kernel))) pa_n))) pa_n)) p_int) p_int) (p_dg (u1 hr) (p_var (pv 2)) (p_var (pv 3))) (p_var (pv 3)))) sc__law_star.nd (i := 5) rfl (by first | exact Or.inl rfl | exact Or.inr rfl))))
    (ss_one (s_ret (p_var (pv 5))))))))
/-! _law_stands -/
theorem sc__law_stands : FnScope ["word", "found", "k", "at", "other"] ["word"] (defScope (top 44)) := ⟨rfl, rfl, rfl, by decide +kernel, rfl, by decide +kernel, by decide +kernel⟩
def b__law_stands : DS :=
    (dsSeq (dsSet .own 1 (dLst dNil))
    (dsSeq (dsFor (dgN 2) (dItA rngP (dCons (dCall (un lenP) (dCons (dV 0) dNil)) dNil)) (dsSeq (dsSet .val 3 (dCall (un lenP) (dCons (dLc [4] (dIt (dO 1)) (dgN 4) (dTru (dFn d__law_is_less (dCons (dSl slP (dV 0) (dSo (dV 4)) dNo) (dCons (dSl slP (dV 0) (dSo (dV 2)) dNo) dNil)))) (dV 4)) dNil)))
    (dsMut 1 inP (dCons (dV 3) (dCons (dV 2) dNil)))))
    (dsFrz 1 (dsRet (dV 1)))))
def d__law_stands : List PV → HS → Option (PV × HS) := fnD 5 b__law_stands
theorem ok__law_stands {P : Program} {w : World} {K : PySem.W.Frag} {mg : Str → Option Value} {base : Heap} {f : Addr} {fd : FuncData} (ff : Facts mg) (D__law_is_less : OkD P w K mg base "_law_is_less" 1 2 .fz d__law_is_less) (F : FnP K "_law_stands" (top 44) f fd) : FnOk P w K mg base CX0 2 f fd ["word"] (spD K 1 .fz d__law_stands) :=
  fn_D (N := ["word", "found", "k", "at", "other"]) F sc__law_stands (by decide) md_fz (fun cdv A outer s H E F0 hd hr => (ss_cons (s_setO (p_lst pa_n) sc__law_stands.nd (i := 1) rfl (by first | exact Or.inl rfl | exact Or.inr rfl))
    (ss_cons (s_for PassesOwn.never rfl (i_range1 rfl ff.f_range (pa_c (to_bw (p_bi call_len len_ok rfl ff.f_len boot_len (pa_c (to_bw (p_var (pv 0))) pa_n))) pa_n) len1) (g_name (pg_name (i := 2) sc__law_stands.nd rfl (by first | exact Or.inl rfl | exact Or.inr rfl))) (ss_cons (s_set (p_bi call_len len_ok rfl ff.f_len boot_len (pa_c (to_bw (p_lc (own := [("other", 4)]) rfl sc__law_stands.nd (i_bw (p_own (pv 1))) (blkOk_by (N := ["word", "found", "k", "at", "other"]) (sc := defScope (top 44)) (own := [("other", 4)]) (by decide +kernel)) (by decide) (fun _ _ _ _ _ => (g_name (pg_name (i := 4) sc__law_stands.nd rfl (by first | exact Or.inl rfl | exact Or.inr rfl)))) (fun _ _ _ _ _ => (pts_1 (pt_tru (p_fn D__law_is_less hr (by decide) rfl rfl (pa_c (p_sl sl_any sl_ok (p_var (pv 0)) (po_s (p_var (pv 4))) po_n) (pa_c (p_sl sl_any sl_ok (p_var (pv 0)) (po_s (p_var (pv 2))) po_n) pa_n)) (lenS (lenS len0)))))) (fun _ _ _ _ _ => (p_var (pv 4))))) pa_n)) sc__law_stands.nd (i := 3) rfl (by first | exact Or.inl rfl | exact Or.inr rfl))
    (ss_one (s_mut (.inl rfl) PySem.F.plainAttrs_list PySem.F.slot_list_insert rfl mt_insert inP_ok inP_l (pv 1) (pa_c (p_var (pv 3)) (pa_c (p_var (pv 2)) pa_n))))))
    (ss_frz 1 (ss_one (s_ret (p_var (pv 1))))))))
/-! _law_covers -/
theorem sc__law_covers : FnScope ["stands", "many", "found", "one", "other", "ends", "end"] ["stands"] (defScope (top 45)) := ⟨rfl, rfl, rfl, by decide +kernel, rfl, by decide +kernel, by decide +kernel⟩
def b__law_covers : DS :=
    (dsSeq (dsPar .val .own 1 2 (dCall (un lenP) (dCons (dV 0) dNil)) (dLst dNil))
    (dsSeq (dsFor (dgT 2 (dgCons (dgN 3) (dgCons (dgN 4) dgNil))) (dItA zipP (dCons (dV 0) (dCons (dSl slP (dV 0) (dSo (dC (.int 1))) dNo) dNil))) (dsSeq (dsSet .val 5 (dCall (un sortedI) (dCons (dLc [6] (dIt (dTup (dCons (dV 3) (dCons (dV 4) dNil)))) (dgN 6) dYes (dMth lixP (dV 0) (dCons (dBin modP (dCall (un intP) (dCons (dBin addP (dV 6) (dC (.int 1))) dNil)) (dV 1)) dNil))) dNil)))
    (dsMut 2 apP (dCons (dBin (rgP .tup) (dBin ixP (dV 5) (dC (.int 0))) (dBin ixP (dV 5) (dC (.int 1)))) dNil))))
    (dsFrz 2 (dsRet (dV 2)))))
def d__law_covers : List PV → HS → Option (PV × HS) := fnD 7 b__law_covers
theorem ok__law_covers {P : Program} {w : World} {K : PySem.W.Frag} {mg : Str → Option Value} {base : Heap} {f : Addr} {fd : FuncData} (ff : Facts mg)  (F : FnP K "_law_covers" (top 45) f fd) : FnOk P w K mg base CX0 1 f fd ["stands"] (spD K 1 .fz d__law_covers) :=
  fn_D (N := ["stands", "many", "found", "one", "other", "ends", "end"]) F sc__law_covers (by decide) md_fz (fun cdv A outer s H E F0 hd hr => (ss_cons (s_parT (m1 := .fz) (m2 := .fr) (.inl rfl) (.inr rfl) rfl (pg_name (i := 1) sc__law_covers.nd rfl (by first | exact Or.inl rfl | exact Or.inr rfl)) (pg_name (i := 2) sc__law_covers.nd rfl (by first | exact Or.inl rfl | exact Or.inr rfl)) (p_bi call_len len_ok rfl ff.f_len boot_len (pa_c (to_bw (p_var (pv 0))) pa_n)) (p_lst pa_n))
    (ss_cons (s_for PassesOwn.never rfl (i_zip_fz rfl ff.f_zip (pa_c (p_var (pv 0)) (pa_c (p_sl sl_any sl_ok (p_var (pv 0)) (po_s p_int) po_n) pa_n)) len2) (g_tup rfl (gs_cons (g_name (pg_name (i := 3) sc__law_covers.nd rfl (by first | exact Or.inl rfl | exact Or.inr rfl))) (gs_cons (g_name (pg_name (i := 4) sc__law_covers.nd rfl (by first | exact Or.inl rfl | exact Or.inr rfl))) gs_nil))) (ss_cons (s_set (fr_fz (p_bi cr_sortedI sortedI_ok rfl ff.f_sorted boot_sorted (pa_c (to_bw (p_lc (own := [("end", 6)]) rfl sc__law_covers.nd (i_bw (to_bw (p_tup (pa_c (p_var (pv 3)) (pa_c (p_var (pv 4)) pa_n))))) (blkOk_by (N := ["stands", "many", "found", "one", "other", "ends", "end"]) (sc := defScope (top 45)) (own := [("end", 6)]) (by decide +kernel)) (by decide) (fun _ _ _ _ _ => (g_name (pg_name (i := 6) sc__law_covers.nd rfl (by first | exact Or.inl rfl | exact Or.inr rfl)))) (fun _ _ _ _ _ => pts_y) (fun _ _ _ _ _ => (p_mth PySem.F.plainAttrs_list PySem.F.slot_list_index rfl (mt_indexD (u65 hr)) lix_ok (lst_ty lixP_l) (p_var (pv 0)) (pa_c (to_bw (p_op op_mod mod_ok (p_ty call_int1 int_ok rfl ff.f_int boot_int (pa_c (to_bw (p_op op_addA add_ok (p_var (pv 6)) p_int)) pa_n)) (p_var (pv 1)))) pa_n))))) pa_n))) sc__law_covers.nd (i := 5) rfl (by first | exact Or.inl rfl | exact Or.inr rfl))
    (ss_one (s_mut (.inl rfl) PySem.F.plainAttrs_list PySem.F.slot_list_append rfl mt_append apP_ok apP_l (pv 2) (pa_c (p_tupRg2 rfl rfl ff.f_tuple rfl ff.f_range (p_ix ix_seq ix_ok (p_var (pv 5)) p_int (fun _ _ => rfl)) (p_ix ix_seq ix_ok (p_var (pv 5)) p_int (fun _ _ => rfl))) pa_n)))))
    (ss_frz 2 (ss_one (s_ret (p_var (pv 2))))))))
/-! _law_stepped -/
theorem sc__law_stepped : FnScope ["covers", "row", "found", "at", "lot", "to"] ["covers", "row"] (defScope (top 46)) := ⟨rfl, rfl, rfl, by decide +kernel, rfl, by decide +kernel, by decide +kernel⟩
def b__law_stepped : DS :=
    (dsSeq (dsSet .own 2 (dBin mulL (dLst (dCons (dC (.int 0)) dNil)) (dCall (un lenP) (dCons (dV 0) dNil))))
    (dsSeq (dsFor (dgT 2 (dgCons (dgN 3) (dgCons (dgN 4) dgNil))) (dItA enumP (dCons (dV 0) dNil)) (dsFor (dgN 5) (dIt (dV 4)) (dsIx 2 (dV 5) (dBin addP (dBin ixP (dO 2) (dV 5)) (dBin ixP (dV 1) (dV 3))))))
    (dsFrz 2 (dsRet (dV 2)))))
def d__law_stepped : List PV → HS → Option (PV × HS) := fnD 6 b__law_stepped
theorem ok__law_stepped {P : Program} {w : World} {K : PySem.W.Frag} {mg : Str → Option Value} {base : Heap} {f : Addr} {fd : FuncData} (ff : Facts mg)  (F : FnP K "_law_stepped" (top 46) f fd) : FnOk P w K mg base CX0 1 f fd ["covers", "row"] (spD K 2 .fz d__law_stepped) :=
  fn_D (N := ["covers", "row", "found", "at", "lot", "to"]) F sc__law_stepped (by decide) md_fz (fun cdv A outer s H E F0 hd hr => (ss_cons (s_setO (p_op op_rep mulL_ok (p_lst (pa_c p_int pa_n)) (p_bi call_len len_ok rfl ff.f_len boot_len (pa_c (to_bw (p_var (pv 0))) pa_n))) sc__law_stepped.nd (i := 2) rfl (by first | exact Or.inl rfl | exact Or.inr rfl))
    (ss_cons (s_for PassesOwn.never rfl (i_enum_fz rfl ff.f_enumerate (pa_c (p_var (pv 0)) pa_n) len1) (g_tup rfl (gs_cons (g_name (pg_name (i := 3) sc__law_stepped.nd rfl (by first | exact Or.inl rfl | exact Or.inr rfl))) (gs_cons (g_name (pg_name (i := 4) sc__law_stepped.nd rfl (by first | exact Or.inl rfl | exact Or.inr rfl))) gs_nil))) (ss_one (s_for PassesOwn.never rfl (i_fz (p_var (pv 4))) (g_name (pg_name (i := 5) sc__law_stepped.nd rfl (by first | exact Or.inl rfl | exact Or.inr rfl))) (ss_one (s_ix (pv 2) (p_var (pv 5)) (p_op op_addA add_ok (p_ix ix_seq ix_ok (p_own (pv 2)) (p_var (pv 5)) (fun _ _ => rfl)) (p_ix ix_seq ix_ok (p_var (pv 1)) (p_var (pv 3)) (fun _ _ => rfl))))))))
    (ss_frz 2 (ss_one (s_ret (p_var (pv 2))))))))
/-! _law_trails -/
theorem sc__law_trails : FnScope ["covers", "steps", "row", "turn"] ["covers", "steps"] (defScope (top 47)) := ⟨rfl, rfl, rfl, by decide +kernel, rfl, by decide +kernel, by decide +kernel⟩
def b__law_trails : DS :=
    (dsSeq (dsSet .val 2 (dBin mulL (dLst (dCons (dC (.int 1)) dNil)) (dCall (un lenP) (dCons (dV 0) dNil))))
    (dsSeq (dsFor (dgN 3) (dItA rngP (dCons (dV 1) dNil)) (dsSet .val 2 (dFn d__law_stepped (dCons (dV 0) (dCons (dV 2) dNil)))))
    (dsRet (dCall (un sumP) (dCons (dV 2) dNil)))))
def d__law_trails : List PV → HS → Option (PV × HS) := fnD 4 b__law_trails
theorem ok__law_trails {P : Program} {w : World} {K : PySem.W.Frag} {mg : Str → Option Value} {base : Heap} {f : Addr} {fd : FuncData} (ff : Facts mg) (D__law_stepped : OkD P w K mg base "_law_stepped" 1 2 .fz d__law_stepped) (F : FnP K "_law_trails" (top 47) f fd) : FnOk P w K mg base CX0 2 f fd ["covers", "steps"] (spD K 2 .fz d__law_trails) :=
  fn_D (N := ["covers", "steps", "row", "turn"]) F sc__law_trails (by decide) md_fz (fun cdv A outer s H E F0 hd hr => (ss_cons (s_set (fr_fz (p_op op_rep mulL_ok (p_lst (pa_c p_int pa_n)) (p_bi call_len len_ok rfl ff.f_len boot_len (pa_c (to_bw (p_var (pv 0))) pa_n)))) sc__law_trails.nd (i := 2) rfl (by first | exact Or.inl rfl | exact Or.inr rfl))
    (ss_cons (s_for PassesOwn.never rfl (i_range1 rfl ff.f_range (pa_c (to_bw (p_var (pv 1))) pa_n) len1) (g_name (pg_name (i := 3) sc__law_trails.nd rfl (by first | exact Or.inl rfl | exact Or.inr rfl))) (ss_one (s_set (p_fn D__law_stepped hr (by decide) rfl rfl (pa_c (p_var (pv 0)) (pa_c (p_var (pv 2)) pa_n)) (lenS (lenS len0))) sc__law_trails.nd (i := 2) rfl (by first | exact Or.inl rfl | exact Or.inr rfl))))
    (ss_one (s_ret (p_bi (cr_sum rfl) sum_ok rfl ff.f_sum boot_sum (pa_c (to_bw (p_var (pv 2))) pa_n)))))))
/-! _law_trace -/
theorem sc__law_trace : FnScope ["covers", "steps", "found", "at", "row", "turn", "to"] ["covers", "steps"] (defScope (top 48)) := ⟨rfl, rfl, rfl, by decide +kernel, rfl, by decide +kernel, by decide +kernel⟩
def b__law_trace : DS :=
    (dsSeq (dsSet .val 2 (dC (.int 0)))
    (dsSeq (dsFor (dgN 3) (dItA rngP (dCons (dCall (un lenP) (dCons (dV 0) dNil)) dNil)) (dsSeq (dsSet .val 4 (dLc [6] (dItA rngP (dCons (dCall (un lenP) (dCons (dV 0) dNil)) dNil)) (dgN 6) dYes (dCall (un intP) (dCons (dBin eqP (dV 6) (dV 3)) dNil))))
    (dsSeq (dsFor (dgN 5) (dItA rngP (dCons (dV 1) dNil)) (dsSet .val 4 (dFn d__law_stepped (dCons (dV 0) (dCons (dV 4) dNil)))))
    (dsSet .val 2 (dBin addP (dV 2) (dBin ixP (dV 4) (dV 3)))))))
    (dsRet (dV 2))))
def d__law_trace : List PV → HS → Option (PV × HS) := fnD 7 b__law_trace
theorem ok__law_trace {P : Program} {w : World} {K : PySem.W.Frag} {mg : Str → Option Value} {base : Heap} {f : Addr} {fd : FuncData} (ff : Facts mg) (D__law_stepped : OkD P w K mg base "_law_stepped" 1 2 .fz d__law_stepped) (F : FnP K "_law_trace" (top 48) f fd) : FnOk P w K mg base CX0 2 f fd ["covers", "steps"] (spD K 2 .fz d__law_trace) :=
  fn_D (N := ["covers", "steps", "found", "at", "row", "turn", "to"]) F sc__law_trace (by decide) md_fz (fun cdv A outer s H E F0 hd hr => (ss_cons (s_set p_int sc__law_trace.nd (i := 2) rfl (by first | exact Or.inl rfl | exact Or.inr rfl))
    (ss_cons (s_for PassesOwn.never rfl (i_range1 rfl ff.f_range (pa_c (to_bw (p_bi call_len len_ok rfl ff.f_len boot_len (pa_c (to_bw (p_var (pv 0))) pa_n))) pa_n) len1) (g_name (pg_name (i := 3) sc__law_trace.nd rfl (by first | exact Or.inl rfl | exact Or.inr rfl))) (ss_cons (s_setLc (own := [("to", 6)]) rfl sc__law_trace.nd (i := 4) rfl rfl (sw_true rfl rfl rfl (by decide +kernel)) (i_range1 rfl ff.f_range (pa_c (to_bw (p_bi call_len len_ok rfl ff.f_len boot_len (pa_c (to_bw (p_var (pv 0))) pa_n))) pa_n) len1) (blkOk_by (N := ["covers", "steps", "found", "at", "row", "turn", "to"]) (sc := defScope (top 48)) (own := [("to", 6)]) (by decide +kernel)) (by decide) (fun _ _ _ _ _ => (g_name (pg_name (i := 6) sc__law_trace.nd rfl (by first | exact Or.inl rfl | exact Or.inr rfl)))) (fun _ _ _ _ _ => pts_y) (fun _ _ _ _ _ => (p_ty call_int1 int_ok rfl ff.f_int boot_int (pa_c (to_bw (p_cmp (op_eqD (u64 hr)) eq_ok (nomark _) (p_var (pv 6)) (p_var (pv 3)))) pa_n))))
    (ss_cons (s_for PassesOwn.never rfl (i_range1 rfl ff.f_range (pa_c (to_bw (p_var (pv 1))) pa_n) len1) (g_name (pg_name (i := 5) sc__law_trace.nd rfl (by first | exact Or.inl rfl | exact Or.inr rfl))) (ss_one (s_set (p_fn D__law_stepped hr (by decide) rfl rfl (pa_c (p_var (pv 0)) (pa_c (p_var (pv 4)) pa_n)) (lenS (lenS len0))) sc__law_trace.nd (i := 4) rfl (by first | exact Or.inl rfl | exact Or.inr rfl))))
    (ss_one (s_set (p_op op_addA add_ok (p_var (pv 2)) (p_ix ix_seq ix_ok (p_var (pv 4)) (p_var (pv 3)) (fun _ _ => rfl))) sc__law_trace.nd (i := 2) rfl (by first | exact Or.inl rfl | exact Or.inr rfl))))))
    (ss_one (s_ret (p_var (pv 2)))))))
/-! _law_poly -/
theorem sc__law_poly : FnScope ["covers", "found", "traces", "k", "steps", "at"] ["covers"] (defScope (top 49)) := ⟨rfl, rfl, rfl, by decide +kernel, rfl, by decide +kernel, by decide +kernel⟩
def b__law_poly : DS :=
    (dsSeq (dsSet .own 1 (dLst (dCons (dC (.int 1)) dNil)))
    (dsSeq (dsSet .val 2 (dLc [4] (dItA rngP (dCons (dC (.int 1)) (dCons (dBin addP (dCall (un lenP) (dCons (dV 0) dNil)) (dC (.int 1))) dNil))) (dgN 4) dYes (dFn d__law_trace (dCons (dV 0) (dCons (dV 4) dNil)))))
    (dsSeq (dsFor (dgN 3) (dItA rngP (dCons (dC (.int 1)) (dCons (dBin addP (dCall (un lenP) (dCons (dV 0) dNil)) (dC (.int 1))) dNil))) (dsMut 1 apP (dCons (dBin subP (dC (.int 0)) (dBin fdivP (dCall (un sumP) (dCons (dLc [5] (dItA rngP (dCons (dC (.int 1)) (dCons (dBin addP (dV 3) (dC (.int 1))) dNil))) (dgN 5) dYes (dBin mulP (dBin ixP (dO 1) (dBin subP (dV 3) (dV 5))) (dBin ixP (dV 2) (dBin subP (dV 5) (dC (.int 1)))))) dNil)) (dV 3))) dNil)))
    (dsRet (dCall (un tupP) (dCons (dO 1) dNil))))))
def d__law_poly : List PV → HS → Option (PV × HS) := fnD 6 b__law_poly
theorem ok__law_poly {P : Program} {w : World} {K : PySem.W.Frag} {mg : Str → Option Value} {base : Heap} {f : Addr} {fd : FuncData} (ff : Facts mg) (D__law_trace : OkD P w K mg base "_law_trace" 2 2 .fz d__law_trace) (F : FnP K "_law_poly" (top 49) f fd) : FnOk P w K mg base CX0 3 f fd ["covers"] (spD K 1 .fz d__law_poly) :=
  fn_D (N := ["covers", "found", "traces", "k", "steps", "at"]) F sc__law_poly (by decide) md_fz (fun cdv A outer s H E F0 hd hr => (ss_cons (s_setO (p_lst (pa_c p_int pa_n)) sc__law_poly.nd (i := 1) rfl (by first | exact Or.inl rfl | exact Or.inr rfl))
    (ss_cons (s_set (fr_fz (p_lc (own := [("steps", 4)]) rfl sc__law_poly.nd (i_range2 rfl ff.f_range (pa_c (to_bw p_int) (pa_c (to_bw (p_op op_addA add_ok (p_bi call_len len_ok rfl ff.f_len boot_len (pa_c (to_bw (p_var (pv 0))) pa_n)) p_int)) pa_n)) len2) (blkOk_by (N := ["covers", "found", "traces", "k", "steps", "at"]) (sc := defScope (top 49)) (own := [("steps", 4)]) (by decide +kernel)) (by decide) (fun _ _ _ _ _ => (g_name (pg_name (i := 4) sc__law_poly.nd rfl (by first | exact Or.inl rfl | exact Or.inr rfl)))) (fun _ _ _ _ _ => pts_y) (fun _ _ _ _ _ => (p_fn D__law_trace hr (by decide) rfl rfl (pa_c (p_var (pv 0)) (pa_c (p_var (pv 4)) pa_n)) (lenS (lenS len0)))))) sc__law_poly.nd (i := 2) rfl (by first | exact Or.inl rfl | exact Or.inr rfl))
    (ss_cons (s_for PassesOwn.never rfl (i_range2 rfl ff.f_range (pa_c (to_bw p_int) (pa_c (to_bw (p_op op_addA add_ok (p_bi call_len len_ok rfl ff.f_len boot_len (pa_c (to_bw (p_var (pv 0))) pa_n)) p_int)) pa_n)) len2) (g_name (pg_name (i := 3) sc__law_poly.nd rfl (by first | exact Or.inl rfl | exact Or.inr rfl))) (ss_one (s_mut (.inl rfl) PySem.F.plainAttrs_list PySem.F.slot_list_append rfl mt_append apP_ok apP_l (pv 1) (pa_c (p_op op_sub sub_ok p_int (p_op op_fdivW fdiv_ok (p_bi (cr_sum rfl) sum_ok rfl ff.f_sum boot_sum (pa_c (to_bw (p_lc (own := [("at", 5)]) rfl sc__law_poly.nd (i_range2 rfl ff.f_range (pa_c (to_bw p_int) (pa_c (to_bw (p_op op_addA add_ok (p_var (pv 3)) p_int)) pa_n)) len2) (blkOk_by (N := ["covers", "found", "traces", "k", "steps", "at"]) (sc := defScope (top 49)) (own := [("at", 5)]) (by decide +kernel)) (by decide) (fun _ _ _ _ _ => (g_name (pg_name (i := 5) sc__law_poly.nd rfl (by first | exact Or.inl rfl | exact Or.inr rfl)))) (fun _ _ _ _ _ => pts_y) (fun _ _ _ _ _ => (p_op op_mulA mul_ok (p_ix ix_seq ix_ok (p_own (pv 1)) (p_op op_sub sub_ok (p_var (pv 3)) (p_var (pv 5))) (fun _ _ => rfl)) (p_ix ix_seq ix_ok (p_var (pv 2)) (p_op op_sub sub_ok (p_var (pv 5)) p_int) (fun _ _ => rfl)))))) pa_n)) (p_var (pv 3)))) pa_n))))
    (ss_one (s_ret (p_ty call_tuple_of tup_ok rfl ff.f_tuple boot_tuple (pa_c (p_own (pv 1)) pa_n))))))))
/-! _law_row -/
theorem sc__law_row : FnScope ["word", "found", "sign"] ["word"] (defScope (top 50)) := ⟨rfl, rfl, rfl, by decide +kernel, rfl, by decide +kernel, by decide +kernel⟩
def b__law_row : DS :=
    (dsSeq (dsSet .own 1 (dLst (dCons (dC (.int 1)) dNil)))
    (dsSeq (dsFor (dgN 2) (dIt (dSl slP (dV 0) dNo (dSo (dUn negP (dC (.int 1)))))) (dsMut 1 apP (dCons (dIf (dTru (dBin eqP (dV 2) (dC (.str [82])))) (dBin subP (dC (.int 0)) (dBin ixP (dO 1) (dUn negP (dC (.int 1))))) (dBin ixP (dO 1) (dUn negP (dC (.int 1))))) dNil)))
    (dsRet (dCall (un tupP) (dCons (dO 1) dNil)))))
def d__law_row : List PV → HS → Option (PV × HS) := fnD 3 b__law_row
theorem ok__law_row {P : Program} {w : World} {K : PySem.W.Frag} {mg : Str → Option Value} {base : Heap} {f : Addr} {fd : FuncData} (ff : Facts mg)  (F : FnP K "_law_row" (top 50) f fd) : FnOk P w K mg base CX0 1 f fd ["word"] (spD K 1 .fz d__law_row) :=
  fn_D (N := ["word", "found", "sign"]) F sc__law_row (by decide) md_fz (fun cdv A outer s H E F0 hd hr => (ss_cons (s_setO (p_lst (pa_c p_int pa_n)) sc__law_row.nd (i := 1) rfl (by first | exact Or.inl rfl | exact Or.inr rfl))
    (ss_cons (s_for PassesOwn.never rfl (i_fz (p_sl sl_any sl_ok (p_var (pv 0)) po_n (po_s (p_un un_neg neg_ok p_int)))) (g_name (pg_name (i := 2) sc__law_row.nd rfl (by first | exact Or.inl rfl | exact Or.inr rfl))) (ss_one (s_mut (.inl rfl) PySem.F.plainAttrs_list PySem.F.slot_list_append rfl mt_append apP_ok apP_l (pv 1) (pa_c (p_if (pt_cmp' (op_eqD (u64 hr)) eq_ok eqP_b (nomark _) (p_var (pv 2)) (p_str (by decide +kernel))) (p_op op_sub sub_ok p_int (p_ix ix_seq ix_ok (p_own (pv 1)) (p_un un_neg neg_ok p_int) (fun _ _ => rfl))) (p_ix ix_seq ix_ok (p_own (pv 1)) (p_un un_neg neg_ok p_int) (fun _ _ => rfl))) pa_n))))
    (ss_one (s_ret (p_ty call_tuple_of tup_ok rfl ff.f_tuple boot_tuple (pa_c (p_own (pv 1)) pa_n)))))))
/-! _law_is_right -/
theorem sc__law_is_right : FnScope ["hand", "word", "stands", "covers", "steps", "many", "told", "due"] ["hand", "word"] (defScope (top 51)) := ⟨rfl, rfl, rfl, by decide +kernel, rfl, by decide +kernel, by decide +kernel⟩
def b__law_is_right : DS :=
    (dsSeq (dsSet .val 2 (dFn d__law_stands (dCons (dV 1) dNil)))
    (dsSeq (dsSet .val 3 (dFn d__law_covers (dCons (dV 2) dNil)))
    (dsSeq (dsSet .val 4 (dFn d__law_any (dCons (dV 0) (dCons (dLst (dCons (dC (.int 200)) (dCons (dC (.int 0)) (dCons (dC (.int 1)) (dCons (dFn d__law_draw (dCons (dV 0) (dCons (dC (.int 201)) dNil))) dNil))))) dNil))))
    (dsSeq (dsSet .val 5 (dFn d__law_any (dCons (dV 0) (dCons (dLst (dCons (dC (.int 1)) (dCons (dC (.int 200)) (dCons (dCall (un lenP) (dCons (dV 1) dNil)) (dCons (dBin addP (dC (.int 1)) (dFn d__law_draw (dCons (dV 0) (dCons (dC (.int 60)) dNil)))) dNil))))) dNil))))
    (dsSeq (dsSet .val 6 (dLst (dCons (dFn d_stands_of (dCons (dV 1) dNil)) (dCons (dFn d_covers_of (dCons (dV 1) dNil)) (dCons (dFn d_trails_many (dCons (dV 1) (dCons (dV 4) dNil))) (dCons (dFn d_trace_by (dCons (dV 1) (dCons (dV 5) dNil))) (dCons (dFn d_growth_row (dCons (dV 1) dNil)) dNil)))))))
    (dsSeq (dsSet .val 7 (dLst (dCons (dCall (un tupP) (dCons (dV 2) dNil)) (dCons (dCall (un tupP) (dCons (dV 3) dNil)) (dCons (dFn d__law_trails (dCons (dV 3) (dCons (dV 4) dNil))) (dCons (dFn d__law_trace (dCons (dV 3) (dCons (dV 5) dNil))) (dCons (dFn d__law_row (dCons (dV 1) dNil)) dNil)))))))
    (dsRet (dTV (dAnd (blOnly (dFn d__law_is (dCons (dV 6) (dCons (dV 7) dNil)))) (blOnly (dBin eqP (dFn d__law_poly (dCons (dV 3) dNil)) (dFn d__law_row (dCons (dV 1) dNil)))))))))))))
def d__law_is_right : List PV → HS → Option (PV × HS) := fnD 8 b__law_is_right
theorem ok__law_is_right {P : Program} {w : World} {K : PySem.W.Frag} {mg : Str → Option Value} {base : Heap} {f : Addr} {fd : FuncData} (ff : Facts mg) (D_stands_of : OkD P w K mg base "stands_of" 6 1 .fz d_stands_of) (D_covers_of : OkD P w K mg base "covers_of" 6 1 .fz d_covers_of) (D_trails_many : OkD P w K mg base "trails_many" 7 2 .fz d_trails_many) (D_trace_by : OkD P w K mg base "trace_by" 7 2 .fz d_trace_by) (D_growth_row : OkD P w K mg base "growth_row" 6 1 .fz d_growth_row) (D__law_draw : OkD P w K mg base "_law_draw" 1 2 .fz d__law_draw) (D__law_any : OkD P w K mg base "_law_any" 2 2 .fz d__law_any) (D__law_is : OkG P w K mg base "_law_is" 1 2 .fz d__law_is) (D__law_stands : OkD P w K mg base "_law_stands" 2 1 .fz d__law_stands) (D__law_covers : OkD P w K mg base "_law_covers" 1 1 .fz d__law_covers) (D__law_trails : OkD P w K mg base "_law_trails" 2 2 .fz d__law_trails) (D__law_trace : OkD P w K mg base "_law_trace" 2 2 .fz d__law_trace) (D__law_poly : OkD P w K mg base "_law_poly" 3 1 .fz d__law_poly) (D__law_row : OkD P w K mg base "_law_row" 1 1 .fz d__law_row) (F : FnP K "_law_is_right" (top 51) f fd) : FnG P w K mg base CX0 8 f fd ["hand", "word"] (spD K 2 .fz d__law_is_right) :=
  fn_G (N := ["hand", "word", "stands", "covers", "steps", "many", "told", "due"]) F sc__law_is_right (by decide) md_fz (fun cdv A outer s H E F0 hd hA hr => (ss_cons (s_set (p_fn D__law_stands hr (by decide) rfl rfl (pa_c (p_var (pv 1)) pa_n) (lenS len0)) sc__law_is_right.nd (i := 2) rfl (by first | exact Or.inl rfl | exact Or.inr rfl))
    (ss_cons (s_set (p_fn D__law_covers hr (by decide) rfl rfl (pa_c (p_var (pv 2)) pa_n) (lenS len0)) sc__law_is_right.nd (i := 3) rfl (by first | exact Or.inl rfl | exact Or.inr rfl))
    (ss_cons (s_set (p_fn D__law_any hr (by decide) rfl rfl (pa_c (p_var (pv 0)) (pa_c (fr_fz (p_lst (pa_c p_int (pa_c p_int (pa_c p_int (pa_c (p_fn D__law_draw hr (by decide) rfl rfl (pa_c (p_var (pv 0)) (pa_c p_int pa_n)) (lenS (lenS len0))) pa_n)))))) pa_n)) (lenS (lenS len0))) sc__law_is_right.nd (i := 4) rfl (by first | exact Or.inl rfl | exact Or.inr rfl))
    (ss_cons (s_set (p_fn D__law_any hr (by decide) rfl rfl (pa_c (p_var (pv 0)) (pa_c (fr_fz (p_lst (pa_c p_int (pa_c p_int (pa_c (p_bi call_len len_ok rfl ff.f_len boot_len (pa_c (to_bw (p_var (pv 1))) pa_n)) (pa_c (p_op op_addA add_ok p_int (p_fn D__law_draw hr (by decide) rfl rfl (pa_c (p_var (pv 0)) (pa_c p_int pa_n)) (lenS (lenS len0)))) pa_n)))))) pa_n)) (lenS (lenS len0))) sc__law_is_right.nd (i := 5) rfl (by first | exact Or.inl rfl | exact Or.inr rfl))
    (ss_cons (s_set (fr_fz (p_lst (pa_c (p_fn D_stands_of hr (by decide) rfl rfl (pa_c (p_var (pv 1)) pa_n) (lenS len0)) (pa_c (p_fn D_covers_of hr (by decide) rfl rfl (pa_c (p_var (pv 1)) pa_n) (lenS len0)) (pa_c (p_fn D_trails_many hr (by decide) rfl rfl (pa_c (p_var (pv 1)) (pa_c (p_var (pv 4)) pa_n)) (lenS (lenS len0))) (pa_c (p_fn D_trace_by hr (by decide) rfl rfl (pa_c (p_var (pv 1)) (pa_c (p_var (pv 5)) pa_n)) (lenS (lenS len0))) (pa_c (p_fn D_growth_row hr (by decide) rfl rfl (pa_c (p_var (pv 1)) pa_n) (lenS len0)) pa_n))))))) sc__law_is_right.nd (i := 6) rfl (by first | exact Or.inl rfl | exact Or.inr rfl))
    (ss_cons (s_set (fr_fz (p_lst (pa_c (p_ty call_tuple_of tup_ok rfl ff.f_tuple boot_tuple (pa_c (to_bw (p_var (pv 2))) pa_n)) (pa_c (p_ty call_tuple_of tup_ok rfl ff.f_tuple boot_tuple (pa_c (to_bw (p_var (pv 3))) pa_n)) (pa_c (p_fn D__law_trails hr (by decide) rfl rfl (pa_c (p_var (pv 3)) (pa_c (p_var (pv 4)) pa_n)) (lenS (lenS len0))) (pa_c (p_fn D__law_trace hr (by decide) rfl rfl (pa_c (p_var (pv 3)) (pa_c (p_var (pv 5)) pa_n)) (lenS (lenS len0))) (pa_c (p_fn D__law_row hr (by decide) rfl rfl (pa_c (p_var (pv 1)) pa_n) (lenS len0)) pa_n))))))) sc__law_is_right.nd (i := 7) rfl (by first | exact Or.inl rfl | exact Or.inr rfl))
    (ss_one (s_ret (p_and (p_fnG D__law_is hA hr (by decide) rfl (pa_c (p_var (pv 6)) (pa_c (p_var (pv 7)) pa_n)) (lenS (lenS len0))) (p_one (p_cmp (op_eqD (u64 hr)) eq_ok (nomark _) (p_fn D__law_poly hr (by decide) rfl rfl (pa_c (p_var (pv 3)) pa_n) (lenS len0)) (p_fn D__law_row hr (by decide) rfl rfl (pa_c (p_var (pv 1)) pa_n) (lenS len0))))))))))))))
/-! law -/
theorem sc_law : FnScope ["script", "hand", "words", "size", "turn", "one", "other", "word", "many"] ["script"] (defScope (top 52)) := ⟨rfl, rfl, rfl, by decide +kernel, rfl, by decide +kernel, by decide +kernel⟩
def b_law1 : DS := (dsSet .own 1 (dFn d__law_hand (dCons (dV 0) dNil)))
def b_law : DS :=
    (dsSeq (dsSet .own 2 (dC (.dct [])))
    (dsSeq (dsFor (dgN 3) (dIt (dTup (dCons (dC (.int 2)) (dCons (dC (.int 3)) (dCons (dC (.int 4)) (dCons (dC (.int 5)) (dCons (dC (.int 8)) (dCons (dC (.int 9)) (dCons (dC (.int 10)) dNil))))))))) (dsDp 2 (dV 3) (dFn d__law_all (dCons (dV 3) dNil))))
    (dsSeq (dsFor (dgN 4) (dItA rngP (dCons (dC (.int 3)) dNil)) (dsSeq (dsSet .val 5 (dFn d__law_any (dCons (dV 1) (dCons (dBin dgP (dO 2) (dFn d__law_any (dCons (dV 1) (dCons (dLst (dCons (dC (.int 2)) (dCons (dC (.int 3)) (dCons (dC (.int 4)) (dCons (dC (.int 5)) (dCons (dC (.int 8)) dNil)))))) dNil)))) dNil))))
    (dsSeq (dsSet .val 6 (dFn d__law_any (dCons (dV 1) (dCons (dBin dgP (dO 2) (dFn d__law_any (dCons (dV 1) (dCons (dLc [8] (dIt (dTup (dCons (dC (.int 2)) (dCons (dC (.int 3)) (dCons (dC (.int 4)) (dCons (dC (.int 5)) (dCons (dC (.int 8)) dNil))))))) (dgN 8) (dTru (dChain ltP leP (dC (.int 8)) (dBin mulP (dV 8) (dCall (un lenP) (dCons (dV 5) dNil))) (dC (.int 16)))) (dV 8)) dNil)))) dNil))))
    (dsFor (dgN 7) (dIt (dTup (dCons (dFn d__law_star (dCons (dV 5) (dCons (dV 6) dNil))) (dCons (dFn d__law_any (dCons (dV 1) (dCons (dBin dgP (dO 2) (dC (.int 10))) dNil))) (dCons (dFn d__law_any (dCons (dV 1) (dCons (dBin dgP (dO 2) (dC (.int 9))) dNil))) dNil))))) (dsIf (dNot (dTru (dFn d__law_is_right (dCons (dV 1) (dCons (dV 7) dNil))))) (dsRet (dC (.bl false))) dsSkip)))))
    (dsRet (dC (.bl true))))))
theorem ok_law {P : Program} {w : World} {K : PySem.W.Frag} {mg : Str → Option Value} {base : Heap} {f : Addr} {fd : FuncData} (ff : Facts mg) (D__law_hand : OkD P w K mg base "_law_hand" 1 1 .fr d__law_hand) (D__law_any : OkD P w K mg base "_law_any" 2 2 .fz d__law_any) (D__law_all : OkD P w K mg base "_law_all" 3 1 .fz d__law_all) (D__law_star : OkD P w K mg base "_law_star" 1 2 .fz d__law_star) (D__law_is_right : OkG P w K mg base "_law_is_right" 8 2 .fz d__law_is_right) (F : FnP K "law" (top 52) f fd)
    (law : ∀ ns : List Int, ns.length ≤ 63 → ∃ xs h1 h2, b_law1 (some (.val (.scr ns)) :: List.replicate (["script", "hand", "words", "size", "turn", "one", "other", "word", "many"].length - 1) none) [] = some (.nx (some (.val (.scr ns)) :: some (.own (.lst xs)) :: List.replicate (["script", "hand", "words", "size", "turn", "one", "other", "word", "many"].length - 2) none) h1) ∧
      b_law (some (.val (.scr ns)) :: some (.val .hand) :: List.replicate (["script", "hand", "words", "size", "turn", "one", "other", "word", "many"].length - 2) none) xs = some (.ret (.bl true) h2)) :
    FnG P w K mg base CX0 9 f fd ["script"] (spLaw K 63) := by
  refine fn_law (N := ["script", "hand", "words", "size", "turn", "one", "other", "word", "many"]) (y := "script") F rfl sc_law (by decide) (fun cdv A outer s H E hA hr F0 hd => ?_) (fun cdv A outer s H E hA hr F0 hd H0 => ?_) law
  · exact (s_setO (p_fn D__law_hand hr (by decide) rfl rfl (pa_c (p_var (pv 0)) pa_n) (lenS len0)) sc_law.nd (i := 1) rfl (by first | exact Or.inl rfl | exact Or.inr rfl))
  · exact (ss_cons (s_setO p_dnew sc_law.nd (i := 2) rfl (by first | exact Or.inl rfl | exact Or.inr rfl))
    (ss_cons (s_for PassesOwn.never rfl (i_fz (p_tup (pa_c p_int (pa_c p_int (pa_c p_int (pa_c p_int (pa_c p_int (pa_c p_int (pa_c p_int pa_n))))))))) (g_name (pg_name (i := 3) sc_law.nd rfl (by first | exact Or.inl rfl | exact Or.inr rfl))) (ss_one (s_dput (u1 hr) (pv 2) (p_var (pv 3)) (p_fn D__law_all hr (by decide) rfl rfl (pa_c (p_var (pv 3)) pa_n) (lenS len0)))))
    (ss_cons (s_for PassesOwn.never rfl (i_range1 rfl ff.f_range (pa_c (to_bw p_int) pa_n) len1) (g_name (pg_name (i := 4) sc_law.nd rfl (by first | exact Or.inl rfl | exact Or.inr rfl))) (ss_cons (s_set (p_fn D__law_any hr (by decide) rfl rfl (pa_c (p_var (pv 1)) (pa_c (p_dg (u1 hr) (p_own (pv 2)) (p_fn D__law_any hr (by decide) rfl rfl (pa_c (p_var (pv 1)) (pa_c (fr_fz (p_lst (pa_c p_int (pa_c p_int (pa_c p_int (pa_c p_int (pa_c p_int pa_n))))))) pa_n)) (lenS (lenS len0)))) pa_n)) (lenS (lenS len0))) sc_law.nd (i := 5) rfl (by first | exact Or.inl rfl | exact Or.inr rfl))
    (ss_cons (s_set (p_fn D__law_any hr (by decide) rfl rfl (pa_c (p_var (pv 1)) (pa_c (p_dg (u1 hr) (p_own (pv 2)) (p_fn D__law_any hr (by decide) rfl rfl (pa_c (p_var (pv 1)) (pa_c (fr_fz (p_lc (own := [("many", 8)]) rfl sc_law.nd (i_bw (to_bw (p_tup (pa_c p_int (pa_c p_int (pa_c p_int (pa_c p_int (pa_c p_int pa_n)))))))) (blkOk_by (N := ["script", "hand", "words", "size", "turn", "one", "other", "word", "many"]) (sc := defScope (top 52)) (own := [("many", 8)]) (by decide +kernel)) (by decide) (fun _ _ _ _ _ => (g_name (pg_name (i := 8) sc_law.nd rfl (by first | exact Or.inl rfl | exact Or.inr rfl)))) (fun _ _ _ _ _ => (pts_1 (pt_chain' op_ltA op_leA lt_ok le_ok leP_b p_int (p_op op_mulA mul_ok (p_var (pv 8)) (p_bi call_len len_ok rfl ff.f_len boot_len (pa_c (to_bw (p_var (pv 5))) pa_n))) p_int))) (fun _ _ _ _ _ => (p_var (pv 8))))) pa_n)) (lenS (lenS len0)))) pa_n)) (lenS (lenS len0))) sc_law.nd (i := 6) rfl (by first | exact Or.inl rfl | exact Or.inr rfl))
    (ss_one (s_for PassesOwn.never rfl (i_fz (p_tup (pa_c (p_fn D__law_star hr (by decide) rfl rfl (pa_c (p_var (pv 5)) (pa_c (p_var (pv 6)) pa_n)) (lenS (lenS len0))) (pa_c (p_fn D__law_any hr (by decide) rfl rfl (pa_c (p_var (pv 1)) (pa_c (p_dg (u1 hr) (p_own (pv 2)) p_int) pa_n)) (lenS (lenS len0))) (pa_c (p_fn D__law_any hr (by decide) rfl rfl (pa_c (p_var (pv 1)) (pa_c (p_dg (u1 hr) (p_own (pv 2)) p_int) pa_n)) (lenS (lenS len0))) pa_n))))) (g_name (pg_name (i := 7) sc_law.nd rfl (by first | exact Or.inl rfl | exact Or.inr rfl))) (ss_one (s_if (pt_not' (pt_tru (p_fnG D__law_is_right hA hr (by decide) rfl (pa_c (p_var (pv 1)) (pa_c (p_var (pv 7)) pa_n)) (lenS (lenS len0))))) (ss_one (s_ret p_bl)) ss_nil)))))))
    (ss_one (s_ret p_bl)))))
end K14

set_option Elab.async false
set_option linter.all false
set_option maxRecDepth 100000
set_option maxHeartbeats 1000000
/-! k14, plain part a: words compared. -/
namespace K14
open PL PySem PySem.Spec PyProof.Rows L2

/-- the signs: 67 C, 76 L, 82 R -/
def vld (x : List Nat) : Prop := ∀ c ∈ x, c = 67 ∨ c = 76 ∨ c = 82
instance (x : List Nat) : Decidable (vld x) := inferInstanceAs (Decidable (∀ c ∈ x, c = 67 ∨ c = 76 ∨ c = 82))
def rk (c : Nat) : Nat := if c = 76 then 0 else if c = 67 then 1 else 2
def lsGo (ev : Bool) : List Nat → List Nat → Bool
  | a :: as, b :: bs => if a = b then lsGo (if a = 82 then !ev else ev) as bs else decide (rk a < rk b) == ev
  | _, _ => false
theorem rk_six {c : Nat} (h : c = 67 ∨ c = 76 ∨ c = 82) : sixP (.str [76, 67, 82]) [.str [c]] = some (.int (rk c : Nat)) := by
  rcases h with rfl | rfl | rfl <;> rfl
theorem vlt {c : Nat} (h : c = 67 ∨ c = 76 ∨ c = 82) : c < 128 := by omega
theorem rank_of_eq {c : Nat} (h : c = 67 ∨ c = 76 ∨ c = 82) (hs : HS) : d_rank_of [.str [c]] hs = some (.int (rk c : Nat), hs) := by
  rcases h with rfl | rfl | rfl <;> rfl

/-! the program's comparison -/
def bRaw : DS := (dsSeq (dsIf (dTru (dBin neP (dV 3) (dV 4))) (dsRet (dBin eqP (dBin ltP (dFn d_rank_of (dCons (dV 3) dNil)) (dFn d_rank_of (dCons (dV 4) dNil))) (dV 2))) dsSkip)
    (dsIf (dTru (dBin eqP (dV 3) (dC (.str [82])))) (dsSet .val 2 (dTV (dNot (dTru (dV 2))))) dsSkip))
theorem raw_go (p q : PV) (hs : HS) : ∀ (x y : List Nat) (ev : Bool) (f l : Option SV), vld x → vld y →
    (forGo (dgT 2 (dgCons (dgN 3) (dgCons (dgN 4) dgNil))) bRaw (List.zipWith (fun x y => PV.tup [x, y]) (x.map fun n => PV.str [n]) (y.map fun n => PV.str [n])) [some (.val p), some (.val q), some (.val (.bl ev)), f, l] hs = some (.ret (.bl true) hs) ∧ lsGo ev x y = true) ∨
    (((∃ ρ, forGo (dgT 2 (dgCons (dgN 3) (dgCons (dgN 4) dgNil))) bRaw (List.zipWith (fun x y => PV.tup [x, y]) (x.map fun n => PV.str [n]) (y.map fun n => PV.str [n])) [some (.val p), some (.val q), some (.val (.bl ev)), f, l] hs = some (.nx ρ hs)) ∨
      forGo (dgT 2 (dgCons (dgN 3) (dgCons (dgN 4) dgNil))) bRaw (List.zipWith (fun x y => PV.tup [x, y]) (x.map fun n => PV.str [n]) (y.map fun n => PV.str [n])) [some (.val p), some (.val q), some (.val (.bl ev)), f, l] hs = some (.ret (.bl false) hs)) ∧ lsGo ev x y = false)
  | [], y, ev, f, l, _, _ => .inr ⟨.inl ⟨_, rfl⟩, rfl⟩
  | a :: as, [], ev, f, l, _, _ => .inr ⟨.inl ⟨_, rfl⟩, rfl⟩
  | a :: as, b :: bs, ev, f, l, hx, hy => by
    have va := hx a (List.mem_cons_self ..)
    have vb := hy b (List.mem_cons_self ..)
    have ih := fun ev f l => raw_go p q hs as bs ev f l (fun c h => hx c (List.mem_cons_of_mem _ h)) (fun c h => hy c (List.mem_cons_of_mem _ h))
    by_cases h : a = b
    · subst h
      by_cases h2 : a = 82
      · subst h2
        exact ih (!ev) (some (.val (.str [82]))) (some (.val (.str [82])))
      · have e1 : forGo (dgT 2 (dgCons (dgN 3) (dgCons (dgN 4) dgNil))) bRaw (List.zipWith (fun x y => PV.tup [x, y]) ((a :: as).map fun n => PV.str [n]) ((a :: bs).map fun n => PV.str [n])) [some (.val p), some (.val q), some (.val (.bl ev)), f, l] hs =
            forGo (dgT 2 (dgCons (dgN 3) (dgCons (dgN 4) dgNil))) bRaw (List.zipWith (fun x y => PV.tup [x, y]) (as.map fun n => PV.str [n]) (bs.map fun n => PV.str [n])) [some (.val p), some (.val q), some (.val (.bl ev)), some (.val (.str [a])), some (.val (.str [a]))] hs := by
          rcases va with rfl | rfl | rfl
          · rfl
          · rfl
          · exact absurd rfl h2
        rw [e1]
        have e2 : lsGo ev (a :: as) (a :: bs) = lsGo ev as bs := by simp [lsGo, h2]
        rw [e2]
        exact ih ev _ _
    · have e2 : lsGo ev (a :: as) (b :: bs) = (decide (rk a < rk b) == ev) := by simp [lsGo, h]
      rw [e2]
      have e1 : forGo (dgT 2 (dgCons (dgN 3) (dgCons (dgN 4) dgNil))) bRaw (List.zipWith (fun x y => PV.tup [x, y]) ((a :: as).map fun n => PV.str [n]) ((b :: bs).map fun n => PV.str [n])) [some (.val p), some (.val q), some (.val (.bl ev)), f, l] hs = some (.ret (.bl (decide (rk a < rk b) == ev)) hs) := by
        rcases va with rfl | rfl | rfl <;> rcases vb with rfl | rfl | rfl <;> first | exact absurd rfl h | (cases ev <;> rfl)
      rw [e1]
      cases (decide (rk a < rk b) == ev)
      · exact .inr ⟨.inr rfl, rfl⟩
      · exact .inl ⟨rfl, rfl⟩
theorem raw_less_eq {x y : List Nat} (hx : vld x) (hy : vld y) (hs : HS) : d_is_raw_less [.str x, .str y] hs = some (.bl (lsGo true x y), hs) := by
  have key := raw_go (.str x) (.str y) hs x y true none none hx hy
  have e : d_is_raw_less [.str x, .str y] hs = (match (match forGo (dgT 2 (dgCons (dgN 3) (dgCons (dgN 4) dgNil))) bRaw (List.zipWith (fun x y => PV.tup [x, y]) (x.map fun n => PV.str [n]) (y.map fun n => PV.str [n])) [some (.val (.str x)), some (.val (.str y)), some (.val (.bl true)), none, none] hs with
    | some (.nx _ h') => some (Out.ret (.bl false) h')
    | r => r) with
    | some (.ret p h) => some (p, h)
    | some (.nx _ h) => some (.non, h)
    | _ => none) := by
    show fnD 5 b_is_raw_less [.str x, .str y] hs = _
    unfold fnD b_is_raw_less dsSeq
    rfl
  rw [e]
  rcases key with ⟨k1, k2⟩ | ⟨⟨ρ, k1⟩ | k1, k2⟩ <;> rw [k1, k2]

/-! the law's comparison -/
def bLess : DS := (dsIf (dTru (dBin neP (dBin ixP (dV 0) (dV 2)) (dBin ixP (dV 1) (dV 2)))) (dsSeq (dsSet .val 3 (dBin ltP (dMth sixP (dC (.str [76, 67, 82])) (dCons (dBin ixP (dV 0) (dV 2)) dNil)) (dMth sixP (dC (.str [76, 67, 82])) (dCons (dBin ixP (dV 1) (dV 2)) dNil))))
    (dsRet (dBin eqP (dV 3) (dBin eqP (dBin modP (dCall (un intP) (dCons (dMth cntP (dSl slP (dV 0) dNo (dSo (dV 2))) (dCons (dC (.str [82])) dNil)) dNil)) (dC (.int 2))) (dC (.int 0)))))) dsSkip)
theorem ix_mid {pre as : List Nat} {a : Nat} (h : (pre ++ a :: as).length ≤ 16777216) : ixP (.str (pre ++ a :: as)) (.int (pre.length : Nat)) = some (.str [a]) := ix_str' h (by simp)
theorem less_body {pre as bs : List Nat} {a b : Nat} {u : Option SV} {hs : HS} (va : a = 67 ∨ a = 76 ∨ a = 82) (vb : b = 67 ∨ b = 76 ∨ b = 82) (h1 : (pre ++ a :: as).length ≤ 16777216) (h2 : (pre ++ b :: bs).length ≤ 16777216) :
    bLess [some (.val (.str (pre ++ a :: as))), some (.val (.str (pre ++ b :: bs))), some (.val (.int (pre.length : Nat))), u] hs =
      if a = b then some (.nx [some (.val (.str (pre ++ a :: as))), some (.val (.str (pre ++ b :: bs))), some (.val (.int (pre.length : Nat))), u] hs)
      else some (.ret (.bl (decide (rk a < rk b) == decide (pre.count 82 % 2 = 0))) hs) := by
  have e1 := ix_mid h1
  have e2 := ix_mid h2
  have e3 := ne_one (vlt va) (vlt vb)
  have e4 := rk_six va
  have e5 := rk_six vb
  have e6 : slP (.str (pre ++ a :: as)) none (some (pre.length : Nat)) = some (.str pre) := by rw [sl_str_to h1]; simp
  have e7 : modP (.int ((pre.count 82 : Nat) : Int)) (.int 2) = some (.int ((pre.count 82 : Nat) % 2)) := rfl
  have e8 : eqP (.int (((pre.count 82 : Nat) : Int) % 2)) (.int 0) = some (.bl (decide (pre.count 82 % 2 = 0))) := by
    show some (PV.bl ((((pre.count 82 : Nat) : Int) % 2) == 0)) = _
    congr 2
    rw [Bool.eq_iff_iff, beq_iff_eq, decide_eq_true_eq]
    omega
  by_cases h : a = b
  · subst h
    simp [bLess, dsIf, dTru, dBin, dV, e1, e2, e3, truP, dsSkip]
  · have e9 : ltP (.int (rk a : Nat)) (.int (rk b : Nat)) = some (.bl (decide (rk a < rk b))) := by
      show some (PV.bl (decide ((rk a : Int) < (rk b : Int)))) = _
      simp
    have e10 : (un intP) [.int ((pre.count 82 : Nat) : Int)] = some (.int ((pre.count 82 : Nat) : Int)) := rfl
    have e11 : cntP (.str pre) [.str [82]] = some (.int ((pre.count 82 : Nat) : Int)) := rfl
    simp [bLess, dsIf, dTru, dBin, dV, dMth, dCons, dNil, dC, dCall, dSl, dNo, dSo, dsSeq, dsSet, dsRet, e1, e2, e3, e4, e5, e6, e7, e8, e9, e10, e11, truP, h, eq_bl]
theorem less_go (hs : HS) : ∀ (x y pre : List Nat) (v u : Option SV), vld x → vld y → (pre ++ x).length ≤ 16777216 → (pre ++ y).length ≤ 16777216 →
    (∃ ρ, forGo (dgN 2) bLess ((List.range' pre.length (min x.length y.length)).map fun (i : Nat) => PV.int i) [some (.val (.str (pre ++ x))), some (.val (.str (pre ++ y))), v, u] hs = some (.nx ρ hs) ∧ lsGo (decide (pre.count 82 % 2 = 0)) x y = false) ∨
      forGo (dgN 2) bLess ((List.range' pre.length (min x.length y.length)).map fun (i : Nat) => PV.int i) [some (.val (.str (pre ++ x))), some (.val (.str (pre ++ y))), v, u] hs = some (.ret (.bl (lsGo (decide (pre.count 82 % 2 = 0)) x y)) hs)
  | [], y, pre, v, u, _, _, _, _ => .inl ⟨_, by rw [List.length_nil, Nat.zero_min]; exact rfl, by cases y <;> rfl⟩
  | a :: as, [], pre, v, u, _, _, _, _ => .inl ⟨_, by rw [List.length_nil, Nat.min_zero]; exact rfl, rfl⟩
  | a :: as, b :: bs, pre, v, u, hx, hy, lx, ly => by
    have va := hx a (List.mem_cons_self ..)
    have vb := hy b (List.mem_cons_self ..)
    have eb := less_body (u := u) (hs := hs) va vb lx ly
    have em : min (a :: as).length (b :: bs).length = min as.length bs.length + 1 := by simp
    rw [em, List.range'_succ, List.map_cons]
    have step : ∀ ps, forGo (dgN 2) bLess (.int (pre.length : Nat) :: ps) [some (.val (.str (pre ++ a :: as))), some (.val (.str (pre ++ b :: bs))), v, u] hs =
        (match bLess [some (.val (.str (pre ++ a :: as))), some (.val (.str (pre ++ b :: bs))), some (.val (.int (pre.length : Nat))), u] hs with
          | some (.nx ρ' hs') => forGo (dgN 2) bLess ps ρ' hs'
          | some (.ct ρ' hs') => forGo (dgN 2) bLess ps ρ' hs'
          | some (.bk ρ' hs') => some (.nx ρ' hs')
          | some (.ret p hs') => some (.ret p hs')
          | none => none) := fun ps => rfl
    rw [step, eb]
    by_cases h : a = b
    · subst h
      rw [if_pos rfl]
      have ih := less_go hs as bs (pre ++ [a]) (some (.val (.int (pre.length : Nat)))) u (fun c h => hx c (List.mem_cons_of_mem _ h)) (fun c h => hy c (List.mem_cons_of_mem _ h)) (by simpa using lx) (by simpa using ly)
      have e2 : lsGo (decide (pre.count 82 % 2 = 0)) (a :: as) (a :: bs) = lsGo (decide ((pre ++ [a]).count 82 % 2 = 0)) as bs := by
        have : (if a = 82 then !decide (pre.count 82 % 2 = 0) else decide (pre.count 82 % 2 = 0)) = decide ((pre ++ [a]).count 82 % 2 = 0) := by
          rw [List.count_append]
          by_cases q : a = 82
          · subst q
            rw [if_pos rfl, List.count_singleton_self]
            rw [Bool.eq_iff_iff]
            simp
            omega
          · rw [if_neg q]
            have : List.count 82 [a] = 0 := by simp [List.count_cons, q]
            rw [this]
            rfl
        simp only [lsGo, if_true, this]
      rw [e2]
      simpa using ih
    · rw [if_neg h]
      have e2 : lsGo (decide (pre.count 82 % 2 = 0)) (a :: as) (b :: bs) = (decide (rk a < rk b) == decide (pre.count 82 % 2 = 0)) := by simp [lsGo, h]
      rw [e2]
      exact .inr rfl
theorem less_eq {x y : List Nat} (hx : vld x) (hy : vld y) (lx : x.length ≤ 16777216) (ly : y.length ≤ 16777216) (hs : HS) : d__law_is_less [.str x, .str y] hs = some (.bl (lsGo true x y), hs) := by
  have key := less_go hs x y [] none none hx hy (by rw [List.nil_append]; exact lx) (by rw [List.nil_append]; exact ly)
  have hc : decide (List.count 82 ([] : List Nat) % 2 = 0) = true := by decide
  simp only [List.nil_append, List.length_nil, hc] at key
  rw [← List.range_eq_range'] at key
  have er := rng_nat (min x.length y.length) (by omega)
  have it := vItA (ρ := [some (.val (.str x)), some (.val (.str y)), none, none]) (hs := hs) (vCons (vCall (vCons (vCall (vCons (vV (i := 0) rfl) vNil) (len_str lx)) (vCons (vCall (vCons (vV (i := 1) rfl) vNil) (len_str ly)) vNil)) (min2_nat x.length y.length)) vNil) er
  rcases key with ⟨ρ, k1, k2⟩ | k1
  · rw [k2]
    exact dRet (xSeq (xFor it k1) (xRet vC))
  · exact dRet (xSeqR (xFor it k1))
end K14

set_option Elab.async false
set_option linter.all false
set_option maxRecDepth 100000
set_option maxHeartbeats 1000000
/-! k14, plain part b: shifts, stands. -/
namespace K14
open PL PySem PySem.Spec PyProof.Rows L2
abbrev en (k : Nat) : PV := .int (k : Int)
theorem vld_drop {w : List Nat} (h : vld w) (k : Nat) : vld (w.drop k) := fun c m => h c (List.mem_of_mem_drop m)
def shT (w : List Nat) : List Nat := (List.range' 1 (w.length - 1)).filter fun k => !lsGo true (w.drop k) w
theorem shifts_law {w : List Nat} (h : vld w) (hl : w.length ≤ 1000) (hs : HS) : d__law_shifts [.str w] hs = some (.lst ((shT w).map en), hs) :=
  dRet (xRet (vLc (vItA (vCons vC (vCons (vCall (vCons (vV rfl) vNil) (len_str (by omega))) vNil)) (rng_nat2 1 w.length (by omega) (by omega))) (by rw [szl]; simp; omega)
    (lc_rel en (fun k => !lsGo true (w.drop k) w) en (List.range' 1 (w.length - 1)) (fun k m => ⟨_, rfl, vNot (vTru (vFn (vCons (vSl (vV rfl) (vSo (vV rfl)) vNo (sl_str_from (by omega))) (vCons (vV rfl) vNil))
      (less_eq (vld_drop h k) h (by simp; omega) (by omega) hs)) (tru_bl _)), fun _ => vV rfl⟩))))
theorem shifts_raw {w : List Nat} (h : vld w) (hl : w.length ≤ 1000) (hs : HS) : d_not_less_shifts [.str w] hs = some (.lst ((shT w).map en), hs) :=
  dRet (xRet (vLc (vItA (vCons vC (vCons (vCall (vCons (vV rfl) vNil) (len_str (by omega))) vNil)) (rng_nat2 1 w.length (by omega) (by omega))) (by rw [szl]; simp; omega)
    (lc_rel en (fun k => !lsGo true (w.drop k) w) en (List.range' 1 (w.length - 1)) (fun k m => ⟨_, rfl, vNot (vTru (vFn (vCons (vSl (vV rfl) (vSo (vV rfl)) vNo (sl_str_from (by omega))) (vCons (vV rfl) vNil))
      (raw_less_eq (vld_drop h k) h hs)) (tru_bl _)), fun _ => vV rfl⟩))))
/-- sorting in by a comparison -/
def insT {α : Type} (l : List α) (i : Nat) (x : α) : List α := l.take i ++ [x] ++ l.drop i
def stG (cmp : Nat → Nat → Bool) : Nat → List Nat
  | 0 => []
  | k + 1 => insT (stG cmp k) ((stG cmp k).filter fun j => cmp j k).length k
theorem insT_len {α : Type} (l : List α) (i : Nat) (x : α) : (insT l i x).length = l.length + 1 := by
  simp [insT]; omega
theorem stG_len (cmp : Nat → Nat → Bool) : ∀ n, (stG cmp n).length = n
  | 0 => rfl
  | n + 1 => by rw [stG, insT_len, stG_len cmp n]
theorem insT_mem {α : Type} {l : List α} {i : Nat} {x y : α} (h : y ∈ insT l i x) : y ∈ l ∨ y = x := by
  simp only [insT, List.mem_append, List.mem_singleton] at h
  rcases h with (h | h) | h
  · exact .inl (List.mem_of_mem_take h)
  · exact .inr h
  · exact .inl (List.mem_of_mem_drop h)
theorem stG_lt (cmp : Nat → Nat → Bool) : ∀ n, ∀ j ∈ stG cmp n, j < n
  | 0, j, h => nomatch h
  | n + 1, j, h => by
    rcases insT_mem h with h | h
    · exact Nat.lt_succ_of_lt (stG_lt cmp n j h)
    · omega
theorem ins_map {α : Type} (l : List α) (i : Nat) (x : α) (f : α → PV) (h : l.length < 16777216) (hi : i ≤ 16777216) : inP (.lst (l.map f)) [.int (i : Int), f x] = some (.lst ((insT l i x).map f)) := by
  have q : inP (.lst (l.map f)) [.int (i : Int), f x] = if (l.map f).length < sizeLine ∧ 0 ≤ (i : Int) ∧ (i : Int) < 2 ^ 63 then some (.lst ((l.map f).take (i : Int).toNat ++ [f x] ++ (l.map f).drop (i : Int).toNat)) else none := by unfold inP; rfl
  rw [q, szl, if_pos ⟨by simpa using h, by omega, by omega⟩]
  simp [insT, List.map_take, List.map_drop]
def cmpL (w : List Nat) (j k : Nat) : Bool := lsGo true (w.drop j) (w.drop k)
def cmpR (w : List Nat) (j k : Nat) : Bool := lsGo true (w.drop j ++ w ++ w) (w.drop k ++ w ++ w)
theorem stands_law {w : List Nat} (h : vld w) (hl : w.length ≤ 1000) (hs : HS) : d__law_stands [.str w] hs = some (.lst ((stG (cmpL w) w.length).map en), hs) := by
  let P : Nat → Rho → Prop := fun k ρ => ∃ a b c, ρ = [some (.val (.str w)), some (.own (.lst ((stG (cmpL w) k).map en))), a, b, c]
  let bd : DS := (dsSeq (dsSet .val 3 (dCall (un lenP) (dCons (dLc [4] (dIt (dO 1)) (dgN 4) (dTru (dFn d__law_is_less (dCons (dSl slP (dV 0) (dSo (dV 4)) dNo) (dCons (dSl slP (dV 0) (dSo (dV 2)) dNo) dNil)))) (dV 4)) dNil)))
    (dsMut 1 inP (dCons (dV 3) (dCons (dV 2) dNil))))
  obtain ⟨ρ', e, a, b, c, rfl⟩ := for_range (tg := dgN 2) (s1 := bd) (hs := hs) (ρ := [some (.val (.str w)), some (.own (.lst [])), none, none, none]) w.length P ⟨none, none, none, rfl⟩ (fun k ρ hk ⟨a, b, c, e⟩ => by
    subst e
    have hlen := stG_len (cmpL w) k
    exact ⟨_, _, rfl, xSeq (xSet (vCall (vCons (vLc (vIt (vO rfl) rfl) (by rw [szl]; simp [hlen]; omega)
      (lc_rel en (fun j => cmpL w j k) en (stG (cmpL w) k) (fun j m => ⟨_, rfl, vTru (vFn (vCons (vSl (vV rfl) (vSo (vV rfl)) vNo (sl_str_from (by omega))) (vCons (vSl (vV rfl) (vSo (vV rfl)) vNo (sl_str_from (by omega))) vNil))
        (less_eq (vld_drop h j) (vld_drop h k) (by simp; omega) (by simp; omega) hs)) (tru_bl _), fun _ => vV rfl⟩))) vNil) len_lst))
      (xMut (vCons (vV rfl) (vCons (vV rfl) vNil)) rfl (by rw [List.length_map]; exact ins_map _ _ _ en (by omega) (by have := List.length_filter_le (fun j => cmpL w j k) (stG (cmpL w) k); omega))), _, _, _, rfl⟩)
  exact dRet (xSeq (xSet (vLst vNil (by decide +kernel))) (xSeq (xFor (vItA (vCons (vCall (vCons (vV rfl) vNil) (len_str (by omega))) vNil) (rng_nat w.length (by omega))) e) (xFrz rfl (xRet (vV rfl)))))
theorem told_on_eq {w : List Nat} (hl : w.length ≤ 1000) (k : Nat) (hs : HS) : d_told_on [.str w, en k] hs = some (.str (w.drop k ++ w ++ w), hs) :=
  dRet (xRet (vBin (vBin (vSl (vV rfl) (vSo (vV rfl)) vNo (sl_str_from (by omega))) (vV rfl) (add_str' (by simp; omega))) (vV rfl) (add_str' (by simp; omega))))
theorem vld_told {w : List Nat} (h : vld w) (k : Nat) : vld (w.drop k ++ w ++ w) := fun c m => by
  simp only [List.mem_append] at m
  rcases m with (m | m) | m
  · exact vld_drop h k c m
  · exact h c m
  · exact h c m
theorem stands_raw {w : List Nat} (h : vld w) (hl : w.length ≤ 1000) (hs : HS) : d_raw_stands [.str w] hs = some (.lst ((stG (cmpR w) w.length).map en), hs) := by
  let P : Nat → Rho → Prop := fun k ρ => ∃ a b c, ρ = [some (.val (.str w)), some (.own (.lst ((stG (cmpR w) k).map en))), a, b, c]
  let bd : DS := (dsSeq (dsSet .val 3 (dCall (un lenP) (dCons (dLc [4] (dIt (dO 1)) (dgN 4) (dTru (dFn d_is_raw_less (dCons (dFn d_told_on (dCons (dV 0) (dCons (dV 4) dNil))) (dCons (dFn d_told_on (dCons (dV 0) (dCons (dV 2) dNil))) dNil)))) (dV 4)) dNil)))
    (dsMut 1 inP (dCons (dV 3) (dCons (dV 2) dNil))))
  obtain ⟨ρ', e, a, b, c, rfl⟩ := for_range (tg := dgN 2) (s1 := bd) (hs := hs) (ρ := [some (.val (.str w)), some (.own (.lst [])), none, none, none]) w.length P ⟨none, none, none, rfl⟩ (fun k ρ hk ⟨a, b, c, e⟩ => by
    subst e
    have hlen := stG_len (cmpR w) k
    exact ⟨_, _, rfl, xSeq (xSet (vCall (vCons (vLc (vIt (vO rfl) rfl) (by rw [szl]; simp [hlen]; omega)
      (lc_rel en (fun j => cmpR w j k) en (stG (cmpR w) k) (fun j m => ⟨_, rfl, vTru (vFn (vCons (vFn (vCons (vV rfl) (vCons (vV rfl) vNil)) (told_on_eq hl j hs)) (vCons (vFn (vCons (vV rfl) (vCons (vV rfl) vNil)) (told_on_eq hl k hs)) vNil))
        (raw_less_eq (vld_told h j) (vld_told h k) hs)) (tru_bl _), fun _ => vV rfl⟩))) vNil) len_lst))
      (xMut (vCons (vV rfl) (vCons (vV rfl) vNil)) rfl (by rw [List.length_map]; exact ins_map _ _ _ en (by omega) (by have := List.length_filter_le (fun j => cmpR w j k) (stG (cmpR w) k); omega))), _, _, _, rfl⟩)
  exact dRet (xSeq (xSet (vLst vNil (by decide +kernel))) (xSeq (xFor (vItA (vCons (vCall (vCons (vV rfl) vNil) (len_str (by omega))) vNil) (rng_nat w.length (by omega))) e) (xFrz rfl (xRet (vV rfl)))))
end K14

set_option Elab.async false
set_option linter.all false
set_option maxRecDepth 100000
set_option maxHeartbeats 1000000
/-! k14, plain part c: all greatest words. -/
namespace K14
open PL PySem PySem.Spec PyProof.Rows L2
theorem oks_int : ∀ (l : List Nat) (n : Nat), okNs n (l.map en) = true
  | [], n => by simp [okNs]
  | a :: l, n => by simp [okNs, okN, oks_int l n]
theorem eq_nil (l : List Nat) : eqP (.lst (l.map en)) (.lst []) = some (.bl l.isEmpty) := by
  unfold eqP
  have h1 : okN 60 (.lst (l.map en)) = true := by simp only [okN]; exact oks_int l 59
  have h2 : okN 60 (.lst []) = true := by simp [okN, okNs]
  rw [h1, h2]
  cases l <;> simp [veq, veqs]
def lonT (rows : List (List Nat)) : List (List Nat) := rows.flatMap fun r => [r ++ [76], r ++ [82]]
theorem ext_map {l m : List PV} (h : l.length + m.length ≤ 16777216) : exP (.lst l) [.lst m] = some (.lst (l ++ m)) := by
  have q : exP (.lst l) [.lst m] = if l.length + m.length ≤ sizeLine then some (.lst (l ++ m)) else none := by unfold exP; rfl
  rw [q, szl, if_pos h]
theorem lonT_len (rows : List (List Nat)) : (lonT rows).length = 2 * rows.length := by
  induction rows with
  | nil => rfl
  | cons a r ih => rw [lonT, List.flatMap_cons, List.length_append]; simp [lonT] at ih ⊢; omega
theorem longer_eq {rows : List (List Nat)} (hl : rows.length ≤ 100000) (hr : ∀ r ∈ rows, r.length ≤ 1000) (hs : HS) : d__law_longer [.lst (rows.map .str)] hs = some (.lst ((lonT rows).map .str), hs) := by
  let P : Nat → Rho → Prop := fun k ρ => ∃ a b, ρ = [some (.val (.lst (rows.map .str))), some (.own (.lst ((lonT (rows.take k)).map .str))), a, b]
  let bd : DS := dsMut 1 exP (dCons (dLc [3] (dIt (dC (.str [76, 82]))) (dgN 3) dYes (dBin addP (dV 2) (dV 3))) dNil)
  obtain ⟨ρ', e, a, b, q⟩ := for_ix (tg := dgN 2) (s1 := bd) (hs := hs) P (rows.map .str) 0 [some (.val (.lst (rows.map .str))), some (.own (.lst [])), none, none] ⟨none, none, rfl⟩ (fun k x ρ m ⟨a, b, e⟩ => by
    subst e
    rw [List.getElem?_map] at m
    obtain ⟨r, m1, rfl⟩ := Option.map_eq_some_iff.mp m
    have mr := hr r (List.mem_of_getElem? m1)
    rw [Nat.zero_add]
    have et : rows.take (k + 1) = rows.take k ++ [r] := by rw [List.take_add_one, m1]; rfl
    have el : (lonT (rows.take k)).length ≤ 200000 := by rw [lonT_len, List.length_take]; omega
    refine ⟨_, _, rfl, xMut (vCons (vLc (vIt vC rfl) (by decide +kernel) (lc_all (fun n : Nat => PV.str [n]) (fun n : Nat => PV.str (r ++ [n])) [76, 82] (fun n m => ⟨_, rfl, rfl, vBin (vV rfl) (vV rfl) (add_str' (by simp; omega))⟩))) vNil) rfl (ext_map (by simp; omega)), a.map id |>.elim none (fun x => some x) |> fun _ => some (.val (.str r)), b, ?_⟩
    rw [et]
    simp [lonT])
  subst q
  have ez : (0 + (rows.map PV.str).length) = rows.length := by simp
  rw [ez, List.take_length] at e
  exact dRet (xSeq (xSet (vLst vNil (by decide +kernel))) (xSeq (xFor (vIt (vV rfl) rfl) e) (xFrz rfl (xRet (vV rfl)))))
def rowT : Nat → List (List Nat)
  | 0 => [[]]
  | n + 1 => lonT (rowT n)
theorem rowT_len : ∀ n, (rowT n).length = 2 ^ n
  | 0 => rfl
  | n + 1 => by rw [rowT, lonT_len, rowT_len n, Nat.pow_succ]; omega
theorem rowT_mem : ∀ n, ∀ r ∈ rowT n, r.length = n ∧ ∀ c ∈ r, c = 76 ∨ c = 82
  | 0, r, h => by
    have : r = [] := by simpa [rowT] using h
    subst this
    exact ⟨rfl, fun c h => nomatch h⟩
  | n + 1, r, h => by
    simp only [rowT, lonT, List.mem_flatMap] at h
    obtain ⟨q, hq, h⟩ := h
    obtain ⟨h1, h2⟩ := rowT_mem n q hq
    simp only [List.mem_cons, List.not_mem_nil, or_false] at h
    rcases h with rfl | rfl
    · refine ⟨by simp [h1], fun c hc => ?_⟩
      rcases List.mem_append.mp hc with hc | hc
      · exact h2 c hc
      · left; simpa using hc
    · refine ⟨by simp [h1], fun c hc => ?_⟩
      rcases List.mem_append.mp hc with hc | hc
      · exact h2 c hc
      · right; simpa using hc
def fouT (n : Nat) : List (List Nat) := ((rowT n).filter fun r => (shT (r ++ [67])).isEmpty).map fun r => r ++ [67]
def ordS (acc : List (List Nat)) (w : List Nat) : List (List Nat) := insT acc (acc.filter fun o => lsGo true o w).length w
def ordT (ws : List (List Nat)) : List (List Nat) := ws.foldl ordS []
theorem ordT_mem : ∀ (ws acc : List (List Nat)), ∀ w ∈ ws.foldl ordS acc, w ∈ acc ∨ w ∈ ws
  | [], acc, w, h => .inl h
  | a :: ws, acc, w, h => by
    rcases ordT_mem ws (ordS acc a) w h with h | h
    · rcases insT_mem h with h | h
      · exact .inl h
      · subst h; exact .inr (List.mem_cons_self ..)
    · exact .inr (List.mem_cons_of_mem _ h)
theorem ordT_len : ∀ (ws acc : List (List Nat)), (ws.foldl ordS acc).length = acc.length + ws.length
  | [], acc => rfl
  | a :: ws, acc => by rw [List.foldl_cons, ordT_len ws, ordS, insT_len, List.length_cons]; omega
def allT (n : Nat) : List (List Nat) := ordT (fouT n)
theorem fouT_mem {n : Nat} {w : List Nat} (h : w ∈ fouT n) : vld w ∧ w.length = n + 1 := by
  simp only [fouT, List.mem_map, List.mem_filter] at h
  obtain ⟨r, ⟨h1, _⟩, rfl⟩ := h
  obtain ⟨h2, h3⟩ := rowT_mem n r h1
  refine ⟨fun c hc => ?_, by simp [h2]⟩
  rcases List.mem_append.mp hc with hc | hc
  · rcases h3 c hc with h | h
    · exact .inr (.inl h)
    · exact .inr (.inr h)
  · left; simpa using hc
theorem all_eq (n : Nat) (hn : n ≤ 12) (hs : HS) : d__law_all [.int ((n + 1 : Nat) : Int)] hs = some (.lst ((allT n).map .str), hs) := by
  have hsub : subP (.int ((n + 1 : Nat) : Int)) (.int 1) = some (.int (n : Int)) := by
    show some (PV.int (((n + 1 : Nat) : Int) - 1)) = _
    congr 2
    omega
  have h2 : ∀ k, k ≤ 12 → (rowT k).length ≤ 4096 := fun k hk => by
    rw [rowT_len]
    exact Nat.le_trans (Nat.pow_le_pow_right (by decide) hk) (by decide)
  -- the rows
  let P : Nat → Rho → Prop := fun k ρ => ∃ a, ρ = [some (.val (.int ((n + 1 : Nat) : Int))), some (.val (.lst ((rowT k).map .str))), a, none, none, none, none, none, none]
  obtain ⟨ρ1, e1, a, rfl⟩ := for_range (tg := dgN 2) (s1 := dsSet .val 1 (dFn d__law_longer (dCons (dV 1) dNil))) (hs := hs) (ρ := [some (.val (.int ((n + 1 : Nat) : Int))), some (.val (.lst [.str []])), none, none, none, none, none, none, none]) n P ⟨none, rfl⟩ (fun k ρ hk ⟨a, e⟩ => by
    subst e
    have := h2 k (by omega)
    exact ⟨_, _, rfl, xSet (vFn (vCons (vV rfl) vNil) (longer_eq (by omega) (fun r m => by rw [(rowT_mem k r m).1]; omega) hs)), _, rfl⟩)
  -- the found
  have hl := h2 n hn
  have ef : dLc [7] (dIt (dV 1)) (dgN 7) (dTru (dBin eqP (dFn d__law_shifts (dCons (dBin addP (dV 7) (dC (.str [67]))) dNil)) (dLst dNil))) (dBin addP (dV 7) (dC (.str [67]))) [some (.val (.int ((n + 1 : Nat) : Int))), some (.val (.lst ((rowT n).map .str))), a, none, none, none, none, none, none] hs = some (.lst ((fouT n).map .str), hs) := by
    refine vLc (vIt (vV rfl) rfl) (by rw [szl, List.length_map]; omega) ?_
    rw [lc_rel (fun r : List Nat => PV.str r) (fun r => (shT (r ++ [67])).isEmpty) (fun r => PV.str (r ++ [67])) (rowT n) (fun r m => by
      obtain ⟨h3, h4⟩ := rowT_mem n r m
      have hv : vld (r ++ [67]) := fun c hc => by
        rcases List.mem_append.mp hc with hc | hc
        · rcases h4 c hc with h | h
          · exact .inr (.inl h)
          · exact .inr (.inr h)
        · left; simpa using hc
      exact ⟨_, rfl, vTru (vBin (vFn (vCons (vBin (vV rfl) vC (add_str' (by simp; omega))) vNil) (shifts_law hv (by simp; omega) hs)) (vLst vNil (by decide +kernel)) (eq_nil _)) (tru_bl _), fun _ => vBin (vV rfl) vC (add_str' (by simp; omega))⟩)]
    simp [fouT]
  have hfl : (fouT n).length ≤ 4096 := by
    rw [fouT, List.length_map]
    exact Nat.le_trans (List.length_filter_le _ _) hl
  -- sorted in
  let Q : Nat → Rho → Prop := fun k ρ => ∃ b c d, ρ = [some (.val (.int ((n + 1 : Nat) : Int))), some (.val (.lst ((rowT n).map .str))), a, some (.val (.lst ((fouT n).map .str))), some (.own (.lst ((ordT ((fouT n).take k)).map .str))), b, c, none, d]
  let bd : DS := (dsSeq (dsSet .val 6 (dCall (un lenP) (dCons (dLc [8] (dIt (dO 4)) (dgN 8) (dTru (dFn d__law_is_less (dCons (dV 8) (dCons (dV 5) dNil)))) (dV 8)) dNil)))
    (dsMut 4 inP (dCons (dV 6) (dCons (dV 5) dNil))))
  obtain ⟨ρ2, e2, b, c, d, q⟩ := for_ix (tg := dgN 5) (s1 := bd) (hs := hs) Q ((fouT n).map .str) 0 [some (.val (.int ((n + 1 : Nat) : Int))), some (.val (.lst ((rowT n).map .str))), a, some (.val (.lst ((fouT n).map .str))), some (.own (.lst [])), none, none, none, none] ⟨none, none, none, rfl⟩ (fun k x ρ m ⟨b, c, d, e⟩ => by
    subst e
    rw [List.getElem?_map] at m
    obtain ⟨w, m1, rfl⟩ := Option.map_eq_some_iff.mp m
    have mw := fouT_mem (List.mem_of_getElem? m1)
    rw [Nat.zero_add]
    have et : (fouT n).take (k + 1) = (fouT n).take k ++ [w] := by rw [List.take_add_one, m1]; rfl
    have el : (ordT ((fouT n).take k)).length ≤ 4096 := by rw [ordT, ordT_len, List.length_take]; simp; omega
    have mm : ∀ o ∈ ordT ((fouT n).take k), vld o ∧ o.length = n + 1 := fun o ho => by
      rcases ordT_mem _ _ o ho with h | h
      · exact nomatch h
      · exact fouT_mem (List.mem_of_mem_take h)
    have e3 : ordT ((fouT n).take (k + 1)) = insT (ordT ((fouT n).take k)) ((ordT ((fouT n).take k)).filter fun o => lsGo true o w).length w := by
      rw [et]
      simp only [ordT, List.foldl_append, List.foldl_cons, List.foldl_nil]
      rfl
    have hfil := List.length_filter_le (fun o => lsGo true o w) (ordT ((fouT n).take k))
    exact ⟨_, _, rfl, xSeq (xSet (vCall (vCons (vLc (vIt (vO rfl) rfl) (by rw [szl, List.length_map]; omega)
      (lc_rel (fun r : List Nat => PV.str r) (fun o => lsGo true o w) (fun r : List Nat => PV.str r) (ordT ((fouT n).take k)) (fun o ho => ⟨_, rfl, vTru (vFn (vCons (vV rfl) (vCons (vV rfl) vNil)) (less_eq (mm o ho).1 mw.1 (by rw [(mm o ho).2]; omega) (by rw [mw.2]; omega) hs)) (tru_bl _), fun _ => vV rfl⟩))) vNil) len_lst))
      (xMut (vCons (vV rfl) (vCons (vV rfl) vNil)) rfl (by rw [List.length_map]; exact ins_map _ _ _ (fun r : List Nat => PV.str r) (by omega) (by omega))), _, _, _, by rw [e3]; rfl⟩)
  subst q
  have ez : (0 + ((fouT n).map PV.str).length) = (fouT n).length := by simp
  rw [ez, List.take_length] at e2
  exact dRet (xSeq (xSet (vLst (vCons vC vNil) (by decide +kernel))) (xSeq (xFor (vItA (vCons (vBin (vV rfl) vC hsub) vNil) (rng_nat n (by omega))) e1) (xSeq (xSet ef) (xSeq (xSet (vLst vNil (by decide +kernel))) (xSeq (xFor (vIt (vV rfl) rfl) e2) (xFrz rfl (xRet (vV rfl))))))))
end K14

set_option Elab.async false
set_option linter.all false
set_option maxRecDepth 100000
set_option maxHeartbeats 1000000
/-! k14, plain part d: rows that are stepped on. -/
namespace K14
open PL PySem PySem.Spec PyProof.Rows L2
def covV (C : List (List Nat)) : PV := .lst (C.map fun lot => .tup (lot.map en))
def rowV (r : List Int) : PV := .lst (r.map .int)
def addT (v : Int) (f : List Int) (j : Nat) : List Int := f.set j (f.getD j 0 + v)
def lotT (f : List Int) (p : List Nat × Int) : List Int := p.1.foldl (addT p.2) f
def stepT (C : List (List Nat)) (r : List Int) : List Int := (C.zip r).foldl lotT (List.replicate C.length 0)
theorem addT_len (v : Int) (f : List Int) (j : Nat) : (addT v f j).length = f.length := by simp [addT]
theorem lotf_len (v : Int) : ∀ (lot : List Nat) (f : List Int), (lot.foldl (addT v) f).length = f.length
  | [], f => rfl
  | j :: lot, f => by rw [List.foldl_cons, lotf_len v lot, addT_len]
theorem lots_len : ∀ (l : List (List Nat × Int)) (f : List Int), (l.foldl lotT f).length = f.length
  | [], f => rfl
  | p :: l, f => by rw [List.foldl_cons, lots_len l, lotT, lotf_len]
theorem stepT_len (C : List (List Nat)) (r : List Int) : (stepT C r).length = C.length := by rw [stepT, lots_len, List.length_replicate]
theorem setAt_nat {xs : List PV} {j : Nat} {y : PV} (h : j < xs.length) : setAt (.lst xs) (.int (j : Int)) y = some (.lst (xs.set j y)) := by
  unfold setAt
  dsimp only
  have : ixN xs.length (j : Int) = some j := by
    unfold ixN
    rw [if_pos (by omega), if_pos (by omega)]
    rfl
  rw [this]
theorem ix_row {r : List Int} {j : Nat} (h : j < r.length) : ixP (rowV r) (.int (j : Int)) = some (.int (r.getD j 0)) := by
  rw [rowV, ix_lst, List.getElem?_map, List.getElem?_eq_getElem h, List.getD_eq_getElem?_getD, List.getElem?_eq_getElem h]
  rfl
theorem set_row {f : List Int} {j : Nat} {v : Int} (h : j < f.length) : setAt (rowV f) (.int (j : Int)) (.int (f.getD j 0 + v)) = some (rowV (addT v f j)) := by
  rw [rowV, setAt_nat (by simpa using h), rowV, addT, List.map_set]
theorem rep_flat (z : Int) : ∀ n, (List.replicate n [PV.int z]).flatten = (List.replicate n z).map PV.int
  | 0 => rfl
  | n + 1 => by rw [List.replicate_succ, List.flatten_cons, rep_flat z n, List.replicate_succ]; rfl
theorem rep_row (z : Int) (n : Nat) (h : n ≤ 100000) : mulL (.lst [.int z]) (.int (n : Int)) = some (rowV (List.replicate n z)) := by
  have q : mulL (.lst [.int z]) (.int (n : Int)) = if -(2 ^ 63) ≤ (n : Int) ∧ (n : Int) < 2 ^ 63 ∧ [PV.int z].length * (n : Int).toNat ≤ sizeLine then some (.lst (List.replicate (n : Int).toNat [PV.int z]).flatten) else none := by unfold mulL; rfl
  rw [q, szl, if_pos ⟨by omega, by omega, by simp; omega⟩, Int.toNat_natCast, rep_flat]
  rfl
theorem en_get (C : List (List Nat)) (k : Nat) (x : PV) (m : (enumL 0 (C.map fun lot => PV.tup (lot.map en)))[k]? = some x) : ∃ lot, C[k]? = some lot ∧ x = .tup [.int (k : Nat), .tup (lot.map en)] := by
  have hl : k < C.length := by
    have := (List.getElem?_eq_some_iff.mp m).1
    rwa [enumL_len, List.length_map] at this
  have e := enumL_get (C.map fun lot => PV.tup (lot.map en)) 0 k (.tup ((C[k]).map en)) (by rw [List.getElem?_map, List.getElem?_eq_getElem hl]; rfl)
  rw [Nat.zero_add] at e
  rw [e] at m
  cases m
  exact ⟨C[k], List.getElem?_eq_getElem hl, rfl⟩
theorem zip_take {C : List (List Nat)} {r : List Int} {k : Nat} {lot : List Nat} (h : C[k]? = some lot) (hk : k < r.length) : (C.zip r).take (k + 1) = (C.zip r).take k ++ [(lot, r.getD k 0)] := by
  rw [List.take_add_one]
  have : (C.zip r)[k]? = some (lot, r.getD k 0) := by
    rw [List.getElem?_zip_eq_some]
    exact ⟨h, by rw [List.getD_eq_getElem?_getD, List.getElem?_eq_getElem hk]; rfl⟩
  rw [this]
  rfl
def okC (C : List (List Nat)) : Prop := ∀ lot ∈ C, ∀ j ∈ lot, j < C.length
/-- the program's step -/
theorem led_on_eq {C : List (List Nat)} {r : List Int} (hC : okC C) (hr : r.length = C.length) (hl : C.length ≤ 1000) (hs : HS) : d_led_on [covV C, rowV r] hs = some (rowV (stepT C r), hs) := by
  let P : Nat → Rho → Prop := fun k ρ => ∃ a b c, ρ = [some (.val (covV C)), some (.val (rowV r)), some (.own (rowV (((C.zip r).take k).foldl lotT (List.replicate C.length 0)))), a, b, c]
  let bd : DS := dsFor (dgN 5) (dIt (dV 4)) (dsAugIx addI 2 (dV 5) (dBin ixP (dV 1) (dV 3)))
  obtain ⟨ρ', e, a, b, c, q⟩ := for_ix (tg := dgT 2 (dgCons (dgN 3) (dgCons (dgN 4) dgNil))) (s1 := bd) (hs := hs) P (enumL 0 (C.map fun lot => PV.tup (lot.map en))) 0 [some (.val (covV C)), some (.val (rowV r)), some (.own (rowV (List.replicate C.length 0))), none, none, none] ⟨none, none, none, rfl⟩ (fun k x ρ m ⟨a, b, c, e⟩ => by
    subst e
    obtain ⟨lot, m1, rfl⟩ := en_get C k x m
    have hk : k < C.length := (List.getElem?_eq_some_iff.mp m1).1
    have hlot := hC lot (List.mem_of_getElem? m1)
    rw [Nat.zero_add]
    let Q : List Int → Rho → Prop := fun f ρ => f.length = C.length ∧ ∃ c, ρ = [some (.val (covV C)), some (.val (rowV r)), some (.own (rowV f)), some (.val (.int (k : Nat))), some (.val (.tup (lot.map en))), c]
    obtain ⟨ρ2, e2, h2, c2, q2⟩ := for_rel (tg := dgN 5) (s1 := dsAugIx addI 2 (dV 5) (dBin ixP (dV 1) (dV 3))) (hs := hs) en Q (addT (r.getD k 0)) lot (((C.zip r).take k).foldl lotT (List.replicate C.length 0)) [some (.val (covV C)), some (.val (rowV r)), some (.own (rowV (((C.zip r).take k).foldl lotT (List.replicate C.length 0)))), some (.val (.int (k : Nat))), some (.val (.tup (lot.map en))), c] ⟨by rw [lots_len, List.length_replicate], c, rfl⟩ (fun f j ρ mj ⟨hf, c, e⟩ => by
      subst e
      have hj := hlot j mj
      exact ⟨_, _, rfl, xAugIx (vV rfl) rfl (ix_row (by omega)) (vBin (vV rfl) (vV rfl) (ix_row (by omega))) rfl (set_row (by omega)), by rw [addT_len]; exact hf, _, rfl⟩)
    refine ⟨_, _, rfl, xFor (vIt (vV rfl) rfl) e2, some (.val (.int (k : Nat))), some (.val (.tup (lot.map en))), c2, ?_⟩
    rw [q2, zip_take m1 (by omega), List.foldl_append]
    rfl)
  subst q
  have ez : (0 + (enumL 0 (C.map fun lot => PV.tup (lot.map en))).length) = C.length := by rw [enumL_len]; simp
  rw [ez, List.take_of_length_le (by simp; omega)] at e
  exact dRet (xSeq (xSet (vBin (vLst (vCons vC vNil) (by decide +kernel)) (vCall (vCons (vV rfl) vNil) len_lst) (by rw [List.length_map, hr]; exact rep_row 0 _ (by omega)))) (xSeq (xFor (vItA (vCons (vV rfl) vNil) rfl) e) (xFrz rfl (xRet (vV rfl)))))
/-- the law's step -/
theorem stepped_eq {C : List (List Nat)} {r : List Int} (hC : okC C) (hr : r.length = C.length) (hl : C.length ≤ 1000) (hs : HS) : d__law_stepped [covV C, rowV r] hs = some (rowV (stepT C r), hs) := by
  let P : Nat → Rho → Prop := fun k ρ => ∃ a b c, ρ = [some (.val (covV C)), some (.val (rowV r)), some (.own (rowV (((C.zip r).take k).foldl lotT (List.replicate C.length 0)))), a, b, c]
  let st : DS := dsIx 2 (dV 5) (dBin addP (dBin ixP (dO 2) (dV 5)) (dBin ixP (dV 1) (dV 3)))
  let bd : DS := dsFor (dgN 5) (dIt (dV 4)) st
  obtain ⟨ρ', e, a, b, c, q⟩ := for_ix (tg := dgT 2 (dgCons (dgN 3) (dgCons (dgN 4) dgNil))) (s1 := bd) (hs := hs) P (enumL 0 (C.map fun lot => PV.tup (lot.map en))) 0 [some (.val (covV C)), some (.val (rowV r)), some (.own (rowV (List.replicate C.length 0))), none, none, none] ⟨none, none, none, rfl⟩ (fun k x ρ m ⟨a, b, c, e⟩ => by
    subst e
    obtain ⟨lot, m1, rfl⟩ := en_get C k x m
    have hk : k < C.length := (List.getElem?_eq_some_iff.mp m1).1
    have hlot := hC lot (List.mem_of_getElem? m1)
    rw [Nat.zero_add]
    let Q : List Int → Rho → Prop := fun f ρ => f.length = C.length ∧ ∃ c, ρ = [some (.val (covV C)), some (.val (rowV r)), some (.own (rowV f)), some (.val (.int (k : Nat))), some (.val (.tup (lot.map en))), c]
    obtain ⟨ρ2, e2, h2, c2, q2⟩ := for_rel (tg := dgN 5) (s1 := st) (hs := hs) en Q (addT (r.getD k 0)) lot (((C.zip r).take k).foldl lotT (List.replicate C.length 0)) [some (.val (covV C)), some (.val (rowV r)), some (.own (rowV (((C.zip r).take k).foldl lotT (List.replicate C.length 0)))), some (.val (.int (k : Nat))), some (.val (.tup (lot.map en))), c] ⟨by rw [lots_len, List.length_replicate], c, rfl⟩ (fun f j ρ mj ⟨hf, c, e⟩ => by
      subst e
      have hj := hlot j mj
      exact ⟨_, _, rfl, xIx (vBin (vBin (vO rfl) (vV rfl) (ix_row (by omega))) (vBin (vV rfl) (vV rfl) (ix_row (by omega))) rfl) (vV rfl) rfl (set_row (by omega)), by rw [addT_len]; exact hf, _, rfl⟩)
    refine ⟨_, _, rfl, xFor (vIt (vV rfl) rfl) e2, some (.val (.int (k : Nat))), some (.val (.tup (lot.map en))), c2, ?_⟩
    rw [q2, zip_take m1 (by omega), List.foldl_append]
    rfl)
  subst q
  have ez : (0 + (enumL 0 (C.map fun lot => PV.tup (lot.map en))).length) = C.length := by rw [enumL_len]; simp
  rw [ez, List.take_of_length_le (by simp; omega)] at e
  exact dRet (xSeq (xSet (vBin (vLst (vCons vC vNil) (by decide +kernel)) (vCall (vCons (vV rfl) vNil) len_lst) (by rw [List.length_map]; exact rep_row 0 _ (by omega)))) (xSeq (xFor (vItA (vCons (vV rfl) vNil) rfl) e) (xFrz rfl (xRet (vV rfl)))))
/-- so many steps -/
def itT (C : List (List Nat)) : Nat → List Int → List Int
  | 0, r => r
  | n + 1, r => stepT C (itT C n r)
theorem itT_len (C : List (List Nat)) (r : List Int) (h : r.length = C.length) : ∀ n, (itT C n r).length = C.length
  | 0 => h
  | n + 1 => stepT_len _ _
theorem sum_row (r : List Int) : (un sumP) [rowV r] = some (.int r.sum) := by
  show (intsOf (r.map PV.int)).map (fun ns => PV.int ns.sum) = _
  rw [intsOf_map]
  rfl
theorem law_trails_eq {C : List (List Nat)} (hC : okC C) (hl : C.length ≤ 1000) (n : Nat) (hn : n ≤ 1000) (hs : HS) : d__law_trails [covV C, en n] hs = some (.int (itT C n (List.replicate C.length 1)).sum, hs) := by
  let P : Nat → Rho → Prop := fun k ρ => ∃ a, ρ = [some (.val (covV C)), some (.val (en n)), some (.val (rowV (itT C k (List.replicate C.length 1)))), a]
  obtain ⟨ρ', e, a, rfl⟩ := for_range (tg := dgN 3) (s1 := dsSet .val 2 (dFn d__law_stepped (dCons (dV 0) (dCons (dV 2) dNil)))) (hs := hs) (ρ := [some (.val (covV C)), some (.val (en n)), some (.val (rowV (List.replicate C.length 1))), none]) n P ⟨none, rfl⟩ (fun k ρ hk ⟨a, e⟩ => by
    subst e
    exact ⟨_, _, rfl, xSet (vFn (vCons (vV rfl) (vCons (vV rfl) vNil)) (stepped_eq hC (itT_len C _ (by simp) k) hl hs)), _, rfl⟩)
  exact dRet (xSeq (xSet (vBin (vLst (vCons vC vNil) (by decide +kernel)) (vCall (vCons (vV rfl) vNil) len_lst) (by rw [List.length_map]; exact rep_row 1 _ (by omega)))) (xSeq (xFor (vItA (vCons (vV rfl) vNil) (rng_nat n (by omega))) e) (xRet (vCall (vCons (vV rfl) vNil) (sum_row _)))))
def unT (n k : Nat) : List Int := (List.range n).map fun j => if j = k then 1 else 0
def trcT (C : List (List Nat)) (s : Nat) : Nat → Int
  | 0 => 0
  | k + 1 => trcT C s k + (itT C s (unT C.length k)).getD k 0
theorem unit_eq {ρ : Rho} {hs : HS} {tg : DG} {a b : DE} {n k : Nat} (h : ∀ j, ∃ ρ1, tg (.int (j : Nat)) ρ = some ρ1 ∧ a ρ1 hs = some (en j, hs) ∧ b ρ1 hs = some (en k, hs)) :
    lcGo tg dYes (dCall (un intP) (dCons (dBin eqP a b) dNil)) ρ ((List.range n).map fun (i : Nat) => PV.int i) hs = some ((unT n k).map .int, hs) := by
  rw [lc_all (fun (i : Nat) => PV.int i) (fun j => .int (if j = k then 1 else 0)) (List.range n) (fun j m => by
    obtain ⟨ρ1, e1, e2, e3⟩ := h j
    refine ⟨ρ1, e1, rfl, vCall (vCons (vBin e2 e3 (eq_int _ _)) vNil) ?_⟩
    rw [int_bl]
    by_cases q : j = k
    · subst q; simp
    · simp [q]; omega)]
  rw [unT, List.map_map]
  rfl
theorem law_trace_eq {C : List (List Nat)} (hC : okC C) (hl : C.length ≤ 1000) (n : Nat) (hn : n ≤ 1000) (hs : HS) : d__law_trace [covV C, en n] hs = some (.int (trcT C n C.length), hs) := by
  let P : Nat → Rho → Prop := fun k ρ => ∃ a b c d, ρ = [some (.val (covV C)), some (.val (en n)), some (.val (.int (trcT C n k))), a, b, c, d]
  let bd : DS := (dsSeq (dsSet .val 4 (dLc [6] (dItA rngP (dCons (dCall (un lenP) (dCons (dV 0) dNil)) dNil)) (dgN 6) dYes (dCall (un intP) (dCons (dBin eqP (dV 6) (dV 3)) dNil))))
    (dsSeq (dsFor (dgN 5) (dItA rngP (dCons (dV 1) dNil)) (dsSet .val 4 (dFn d__law_stepped (dCons (dV 0) (dCons (dV 4) dNil)))))
    (dsSet .val 2 (dBin addP (dV 2) (dBin ixP (dV 4) (dV 3))))))
  obtain ⟨ρ', e, a, b, c, d, rfl⟩ := for_range (tg := dgN 3) (s1 := bd) (hs := hs) (ρ := [some (.val (covV C)), some (.val (en n)), some (.val (.int 0)), none, none, none, none]) C.length P ⟨none, none, none, none, rfl⟩ (fun k ρ hk ⟨a, b, c, d, e⟩ => by
    subst e
    let Q : Nat → Rho → Prop := fun m ρ => ∃ c, ρ = [some (.val (covV C)), some (.val (en n)), some (.val (.int (trcT C n k))), some (.val (en k)), some (.val (rowV (itT C m (unT C.length k)))), c, d]
    obtain ⟨ρ2, e2, c2, rfl⟩ := for_range (tg := dgN 5) (s1 := dsSet .val 4 (dFn d__law_stepped (dCons (dV 0) (dCons (dV 4) dNil)))) (hs := hs) (ρ := [some (.val (covV C)), some (.val (en n)), some (.val (.int (trcT C n k))), some (.val (en k)), some (.val (rowV (unT C.length k))), c, d]) n Q ⟨c, rfl⟩ (fun m ρ hm ⟨c, e⟩ => by
      subst e
      exact ⟨_, _, rfl, xSet (vFn (vCons (vV rfl) (vCons (vV rfl) vNil)) (stepped_eq hC (itT_len C _ (by simp [unT]) m) hl hs)), _, rfl⟩)
    refine ⟨_, _, rfl, xSeq (xSet (vLc (vItA (vCons (vCall (vCons (vV rfl) vNil) len_lst) vNil) (by rw [List.length_map]; exact rng_nat C.length (by omega))) (by rw [szl]; simp; omega) (unit_eq (fun j => ⟨_, rfl, vV rfl, vV rfl⟩)))) (xSeq (xFor (vItA (vCons (vV rfl) vNil) (rng_nat n (by omega))) e2) (xSet (vBin (vV rfl) (vBin (vV rfl) (vV rfl) (ix_row (by rw [itT_len C _ (by simp [unT])]; exact hk))) rfl))), _, _, _, _, rfl⟩)
  exact dRet (xSeq (xSet vC) (xSeq (xFor (vItA (vCons (vCall (vCons (vV rfl) vNil) len_lst) vNil) (by rw [List.length_map]; exact rng_nat C.length (by omega))) e) (xRet (vV rfl))))
end K14

set_option Elab.async false
set_option linter.all false
set_option maxRecDepth 100000
set_option maxHeartbeats 1000000
/-! k14, plain part e: checks, the rows of growth. -/
namespace K14
open PL PySem PySem.Spec PyProof.Rows L2
/-- a greatest word of the right length: its front, then C -/
structure Wd (w : List Nat) : Prop where
  ex : ∃ fr, w = fr ++ [67] ∧ ∀ c ∈ fr, c = 76 ∨ c = 82
  lo : 2 ≤ w.length
  hi : w.length ≤ 16
  gr : shT w = []
section
variable {w : List Nat}
theorem Wd.vld (h : Wd w) : vld w := by
  obtain ⟨fr, rfl, q⟩ := h.ex
  intro c hc
  rcases List.mem_append.mp hc with hc | hc
  · exact .inr (q c hc)
  · left; simpa using hc
theorem in_lr (n : Nat) : inP' (.str [n]) (.str [76, 82]) = some (.bl (decide (n = 76 ∨ n = 82))) := by
  show some (PV.bl (decide (n ∈ [76, 82]))) = _
  congr 2
  simp
theorem all_bl (bs : List Bool) : (un allP) [.lst (bs.map .bl)] = some (.bl (bs.all id)) := by
  show (blsOf (bs.map PV.bl)).map (fun ns => PV.bl (ns.all id)) = _
  rw [blsOf_map]
  rfl
theorem turn_word_eq (h : Wd w) (hs : HS) : d_is_turn_word [.str w] hs = some (.bl true, hs) := by
  obtain ⟨fr, e, q⟩ := h.ex
  have hl := h.hi
  have h2 := h.lo
  have e1 : ixP (.str w) (.int (-1)) = some (.str [67]) := by
    have q : ixP (.str w) (.int (-1)) = if w.length ≤ sizeLine then (match atI w (-1) with | some n => some (PV.str [n]) | none => none) else none := by unfold ixP; rfl
    rw [q, szl, if_pos (by omega), PL.atI_last, e]
    simp
  have e2 : lcGo (dgN 1) dYes (dBin inP' (dV 1) (dBin addP (dC (.str [76])) (dC (.str [82])))) (wipeR [some (.val (.str w)), none] [1]) (w.dropLast.map fun n => PV.str [n]) hs = some ((w.dropLast.map fun n => decide (n = 76 ∨ n = 82)).map .bl, hs) := by
    rw [lc_all (fun n : Nat => PV.str [n]) (fun n => .bl (decide (n = 76 ∨ n = 82))) w.dropLast (fun n m => ⟨_, rfl, rfl, vBin (vV rfl) (vBin vC vC (add_str' (by decide))) (in_lr n)⟩), List.map_map]
    rfl
  have e3 : (w.dropLast.map fun n => decide (n = 76 ∨ n = 82)).all id = true := by
    rw [e]
    simp only [List.dropLast_concat, List.all_map, List.all_eq_true]
    intro c hc
    simpa using q c hc
  refine dRet (xSeq (xIfF (vOrF (vNotT (vTru (vUn (vV rfl) rfl) rfl)) (vOrF (vNotT (vTru (vChT vC (vCall (vCons (vV rfl) vNil) (len_str (by omega))) ?_ vC ?_) (tru_bl _))) (vTru (vBin (vBin (vV rfl) (vUn vC rfl) e1) vC rfl) rfl))) xSkip) (xRet (vCall (vCons (vLc (vIt (vSl (vV rfl) vNo (vSo (vUn vC rfl)) (sl_str_but (by omega))) rfl) (by rw [szl]; simp; omega) e2) vNil) (by rw [all_bl, e3]))))
  · show some (PV.bl (decide ((1 : Int) ≤ (w.length : Int)))) = _
    rw [decide_eq_true (by omega)]
  · show some (PV.bl (decide ((w.length : Int) ≤ (16 : Int)))) = _
    rw [decide_eq_true (by omega)]
theorem check_turn_eq (h : Wd w) (hs : HS) : d_check_turn_word [.str w] hs = some (.non, hs) := dNx (xIfF (vNotT (vTru (vFn (vCons (vV rfl) vNil) (turn_word_eq h hs)) rfl)) xSkip)
theorem check_greatest_eq (h : Wd w) (hs : HS) : d_check_greatest [.str w] hs = some (.non, hs) := by
  have e := shifts_raw h.vld (by have := h.hi; omega) hs
  rw [h.gr] at e
  exact dNx (xSeq (xDrop (vFn (vCons (vV rfl) vNil) (check_turn_eq h hs))) (xIfF (vTru (vBin (vCall (vCons (vFn (vCons (vV rfl) vNil) e) vNil) len_lst) vC rfl) rfl) xSkip))
theorem check_long_eq (h : Wd w) (hs : HS) : d_check_long [.str w] hs = some (.non, hs) := by
  refine dNx (xSeq (xDrop (vFn (vCons (vV rfl) vNil) (check_greatest_eq h hs))) (xIfF (vTru (vBin (vCall (vCons (vV rfl) vNil) (len_str (by have := h.hi; omega))) vC ?_) (tru_bl _)) xSkip))
  show some (PV.bl (decide ((w.length : Int) < (2 : Int)))) = _
  rw [decide_eq_false (by have := h.lo; omega)]
theorem stands_of_eq (h : Wd w) (hs : HS) : d_stands_of [.str w] hs = some (.tup ((stG (cmpR w) w.length).map en), hs) :=
  dRet (xSeq (xDrop (vFn (vCons (vV rfl) vNil) (check_long_eq h hs))) (xRet (vCall (vCons (vFn (vCons (vV rfl) vNil) (stands_raw h.vld (by have := h.hi; omega) hs)) vNil) rfl)))
/-- one more sign -/
def groS (f : List Int) (c : Nat) : List Int := f ++ [if c = 82 then -(f.getLastD 0) else f.getLastD 0]
def groT (w : List Nat) : List Int := w.dropLast.foldl groS [1]
theorem groS_ne (f : List Int) (c : Nat) : groS f c ≠ [] := by simp [groS]
theorem gro_ne : ∀ (l : List Nat) (f : List Int), f ≠ [] → l.foldl groS f ≠ []
  | [], f, h => h
  | c :: l, f, h => gro_ne l _ (groS_ne f c)
theorem row_last {f : List Int} (h : f ≠ []) : ixP (rowV f) (.int (-1)) = some (.int (f.getLastD 0)) := by
  rw [rowV, ix_lstL, List.getLast?_map, List.getLast?_eq_some_getLast h]
  simp [List.getLastD_eq_getLast?, List.getLast?_eq_some_getLast h]
theorem app_row {f : List Int} {v : Int} (h : f.length < 1000000) : apP (rowV f) [.int v] = some (rowV (f ++ [v])) := by
  have q : apP (rowV f) [.int v] = if (f.map PV.int).length < sizeLine then some (.lst (f.map PV.int ++ [.int v])) else none := by unfold apP rowV; rfl
  rw [q, szl, if_pos (by simp; omega), rowV]
  simp
theorem gro_len : ∀ (l : List Nat) (f : List Int), (l.foldl groS f).length = f.length + l.length
  | [], f => rfl
  | c :: l, f => by rw [List.foldl_cons, gro_len l, groS]; simp; omega
theorem growth_eq (h : Wd w) (hs : HS) : d_growth_row [.str w] hs = some (.tup ((groT w).map .int), hs) := by
  have hv := h.vld
  have hl := h.hi
  let P : Nat → Rho → Prop := fun k ρ => ∃ a, ρ = [some (.val (.str w)), some (.own (rowV ((w.dropLast.take k).foldl groS [1]))), a]
  let bd : DS := dsMut 1 apP (dCons (dIf (dTru (dBin eqP (dV 2) (dC (.str [82])))) (dUn negP (dBin ixP (dO 1) (dUn negP (dC (.int 1))))) (dBin ixP (dO 1) (dUn negP (dC (.int 1))))) dNil)
  obtain ⟨ρ', e, a, q⟩ := for_ix (tg := dgN 2) (s1 := bd) (hs := hs) P (w.dropLast.map fun n => PV.str [n]) 0 [some (.val (.str w)), some (.own (rowV [1])), none] ⟨none, rfl⟩ (fun k x ρ m ⟨a, e⟩ => by
    subst e
    rw [List.getElem?_map] at m
    obtain ⟨c, m1, rfl⟩ := Option.map_eq_some_iff.mp m
    have hc : c < 128 := vlt (hv c (List.dropLast_subset _ (List.mem_of_getElem? m1)))
    rw [Nat.zero_add]
    have et : w.dropLast.take (k + 1) = w.dropLast.take k ++ [c] := by rw [List.take_add_one, m1]; rfl
    have hne := gro_ne (w.dropLast.take k) [1] (by simp)
    have hlen := gro_len (w.dropLast.take k) [1]
    have hb : ((w.dropLast.take k).foldl groS [1]).length < 1000000 := by rw [hlen]; simp; omega
    have el := row_last hne
    refine ⟨_, _, rfl, xMut (vCons (x := .int (if c = 82 then -(((w.dropLast.take k).foldl groS [1]).getLastD 0) else ((w.dropLast.take k).foldl groS [1]).getLastD 0)) (vIfB (vTru (vBin (vV rfl) vC (eq_one hc (by decide))) (tru_bl _)) ?_) vNil) rfl (app_row hb), some (.val (.str [c])), ?_⟩
    · by_cases q : c = 82
      · rw [decide_eq_true q, if_pos rfl, if_pos q]
        exact vUn (vBin (vO rfl) (vUn vC rfl) el) rfl
      · rw [decide_eq_false q, if_neg (by decide), if_neg q]
        exact vBin (vO rfl) (vUn vC rfl) el
    · rw [et, List.foldl_append]
      rfl)
  subst q
  have ez : (0 + (w.dropLast.map fun n => PV.str [n]).length) = w.dropLast.length := by simp
  rw [ez, List.take_length] at e
  exact dRet (xSeq (xDrop (vFn (vCons (vV rfl) vNil) (check_long_eq h hs))) (xSeq (xSet (vLst (vCons vC vNil) (by decide +kernel))) (xSeq (xFor (vIt (vSl (vV rfl) vNo (vSo (vUn vC rfl)) (sl_str_but (by omega))) rfl) e) (xRet (vCall (vCons (vO rfl) vNil) rfl)))))
theorem law_row_eq (h : Wd w) (hs : HS) : d__law_row [.str w] hs = some (.tup ((groT w).map .int), hs) := by
  have hv := h.vld
  have hl := h.hi
  let P : Nat → Rho → Prop := fun k ρ => ∃ a, ρ = [some (.val (.str w)), some (.own (rowV ((w.dropLast.take k).foldl groS [1]))), a]
  let bd : DS := dsMut 1 apP (dCons (dIf (dTru (dBin eqP (dV 2) (dC (.str [82])))) (dBin subP (dC (.int 0)) (dBin ixP (dO 1) (dUn negP (dC (.int 1))))) (dBin ixP (dO 1) (dUn negP (dC (.int 1))))) dNil)
  obtain ⟨ρ', e, a, q⟩ := for_ix (tg := dgN 2) (s1 := bd) (hs := hs) P (w.dropLast.map fun n => PV.str [n]) 0 [some (.val (.str w)), some (.own (rowV [1])), none] ⟨none, rfl⟩ (fun k x ρ m ⟨a, e⟩ => by
    subst e
    rw [List.getElem?_map] at m
    obtain ⟨c, m1, rfl⟩ := Option.map_eq_some_iff.mp m
    have hc : c < 128 := vlt (hv c (List.dropLast_subset _ (List.mem_of_getElem? m1)))
    rw [Nat.zero_add]
    have et : w.dropLast.take (k + 1) = w.dropLast.take k ++ [c] := by rw [List.take_add_one, m1]; rfl
    have hne := gro_ne (w.dropLast.take k) [1] (by simp)
    have hlen := gro_len (w.dropLast.take k) [1]
    have hb : ((w.dropLast.take k).foldl groS [1]).length < 1000000 := by rw [hlen]; simp; omega
    have el := row_last hne
    refine ⟨_, _, rfl, xMut (vCons (x := .int (if c = 82 then -(((w.dropLast.take k).foldl groS [1]).getLastD 0) else ((w.dropLast.take k).foldl groS [1]).getLastD 0)) (vIfB (vTru (vBin (vV rfl) vC (eq_one hc (by decide))) (tru_bl _)) ?_) vNil) rfl (app_row hb), some (.val (.str [c])), ?_⟩
    · by_cases q : c = 82
      · rw [decide_eq_true q, if_pos rfl, if_pos q]
        refine vBin vC (vBin (vO rfl) (vUn vC rfl) el) ?_
        show some (PV.int (0 - _)) = _
        rw [Int.zero_sub]
      · rw [decide_eq_false q, if_neg (by decide), if_neg q]
        exact vBin (vO rfl) (vUn vC rfl) el
    · rw [et, List.foldl_append]
      rfl)
  subst q
  have ez : (0 + (w.dropLast.map fun n => PV.str [n]).length) = w.dropLast.length := by simp
  rw [ez, List.take_length] at e
  exact dRet (xSeq (xSet (vLst (vCons vC vNil) (by decide +kernel))) (xSeq (xFor (vIt (vSl (vV rfl) vNo (vSo (vUn vC rfl)) (sl_str_but (by omega))) rfl) e) (xRet (vCall (vCons (vO rfl) vNil) rfl))))
end
end K14

set_option Elab.async false
set_option linter.all false
set_option maxRecDepth 100000
set_option maxHeartbeats 1000000
/-! k14, plain part f: covers. -/
namespace K14
open PL PySem PySem.Spec PyProof.Rows L2
theorem insT_has {α : Type} {l : List α} {i : Nat} {x y : α} (h : y ∈ l ∨ y = x) : y ∈ insT l i x := by
  simp only [insT, List.mem_append, List.mem_singleton]
  rcases h with h | h
  · rw [← List.take_append_drop i l] at h
    rcases List.mem_append.mp h with h | h
    · exact .inl (.inl h)
    · exact .inr h
  · exact .inl (.inr h)
theorem insT_nodup {l : List Nat} {i x : Nat} (h : l.Nodup) (hx : x ∉ l) : (insT l i x).Nodup := by
  have p : (insT l i x).Perm (x :: l) := by
    unfold insT
    have q : (l.take i ++ [x] ++ l.drop i).Perm (x :: (l.take i ++ l.drop i)) := by
      rw [List.append_assoc]
      exact List.perm_middle
    rwa [List.take_append_drop] at q
  exact p.nodup_iff.mpr (List.nodup_cons.mpr ⟨hx, h⟩)
theorem stG_nodup (cmp : Nat → Nat → Bool) : ∀ n, (stG cmp n).Nodup
  | 0 => List.nodup_nil
  | n + 1 => insT_nodup (stG_nodup cmp n) fun h => Nat.lt_irrefl _ (stG_lt cmp n n h)
theorem stG_all (cmp : Nat → Nat → Bool) : ∀ n, ∀ v, v < n → v ∈ stG cmp n
  | n + 1, v, h => insT_has (by
    rcases Nat.lt_succ_iff_lt_or_eq.mp h with h | h
    · exact .inl (stG_all cmp n v h)
    · exact .inr h)
def lotO (S : List Nat) (i : Nat) : List Nat :=
  let a := S.idxOf ((S.getD i 0 + 1) % S.length)
  let b := S.idxOf ((S.getD (i + 1) 0 + 1) % S.length)
  List.range' (min a b) (max a b - min a b)
def covT (S : List Nat) (k : Nat) : List (List Nat) := (List.range k).map (lotO S)
theorem covT_succ (S : List Nat) (k : Nat) : covT S (k + 1) = covT S k ++ [lotO S k] := by simp [covT, List.range_succ]
theorem sort2 (a b : Nat) : (un sortedI) [.lst ([a, b].map en)] = some (.lst [en (min a b), en (max a b)]) := by
  have q : (un sortedI) [.lst ([a, b].map en)] = some (.lst ((sortI [(a : Int), (b : Int)]).map .int)) := rfl
  rw [q]
  have e : sortI [(a : Int), (b : Int)] = [((min a b : Nat) : Int), ((max a b : Nat) : Int)] := by
    have q2 : sortI [(a : Int), (b : Int)] = if (a : Int) ≤ (b : Int) then [(a : Int), (b : Int)] else [(b : Int), (a : Int)] := rfl
    rw [q2]
    split
    · rw [Nat.min_eq_left (by omega), Nat.max_eq_right (by omega)]
    · rw [Nat.min_eq_right (by omega), Nat.max_eq_left (by omega)]
  rw [e]
  rfl
theorem rg_tup (a b : Nat) (h : b ≤ 100000) (h2 : a ≤ 100000) : rgP .tup (en a) (en b) = some (.tup ((List.range' a (b - a)).map en)) := by
  have q : rgP .tup (en a) (en b) = if -(2 ^ 62) ≤ (a : Int) ∧ (a : Int) < 2 ^ 62 ∧ -(2 ^ 62) ≤ (b : Int) ∧ (b : Int) < 2 ^ 62 ∧ ((b : Int) - (a : Int)).toNat ≤ 2 ^ 24 then some (.tup (rngL (a : Int) ((b : Int) - (a : Int)).toNat)) else none := by unfold rgP; rfl
  rw [q, if_pos ⟨by omega, by omega, by omega, by omega, by omega⟩]
  have e : ((b : Int) - (a : Int)).toNat = b - a := by omega
  rw [e, rngL, List.range'_eq_map_range, List.map_map]
  rfl
theorem next_mod (v n : Nat) (h : 0 < n) : modP (.int ((v : Int) + 1)) (.int (n : Int)) = some (en ((v + 1) % n)) := by
  have q : modP (.int ((v : Int) + 1)) (.int (n : Int)) = if 0 < (n : Int) then some (.int (((v : Int) + 1) % (n : Int))) else none := by unfold modP; rfl
  rw [q, if_pos (by omega)]
  rfl
theorem okl (S : List Nat) : okN 60 (.lst (S.map en)) = true := by simp only [okN]; exact oks_int S 59
theorem fix_idx (S : List Nat) (v : Nat) (h : v ∈ S) : ((S.map en).findIdx? fun z => veq z (en v)) = some (S.idxOf v) := by
  induction S with
  | nil => cases h
  | cons a S ih =>
    rw [List.map_cons, List.findIdx?_cons, List.idxOf_cons]
    have e : veq (en a) (en v) = (a == v) := by
      show (((a : Int)) == ((v : Int))) = _
      rw [Bool.eq_iff_iff, beq_iff_eq, beq_iff_eq]
      omega
    rw [e]
    cases q : (a == v) with
    | true => rfl
    | false =>
      have hv : v ∈ S := by
        rcases List.mem_cons.mp h with h | h
        · subst h; simp at q
        · exact h
      rw [ih hv]
      rfl
theorem lix_eq (S : List Nat) (v : Nat) (h : v ∈ S) : lixP (.lst (S.map en)) [en v] = some (en (S.idxOf v)) := by
  have q : lixP (.lst (S.map en)) [en v] = if okN 60 (.lst (S.map en)) && okN 60 (en v) then (match ((S.map en).findIdx? fun z => veq z (en v)) with | some i => some (PV.int (i : Nat)) | none => none) else none := by unfold lixP; rfl
  have o2 : okN 60 (en v) = true := by simp [okN]
  rw [q, okl, o2, fix_idx S v h]
  rfl
theorem app_cov {C : List (List Nat)} {lot : List Nat} (h : C.length < 1000000) : apP (covV C) [.tup (lot.map en)] = some (covV (C ++ [lot])) := by
  have q : apP (covV C) [.tup (lot.map en)] = if (C.map fun lot => PV.tup (lot.map en)).length < sizeLine then some (.lst ((C.map fun lot => PV.tup (lot.map en)) ++ [.tup (lot.map en)])) else none := by unfold apP covV; rfl
  rw [q, szl, if_pos (by simp; omega), covV]
  simp
section
variable {S : List Nat} (hS : ∀ v, v < S.length → v ∈ S) (hl : S.length ≤ 1000)
include hS hl
theorem law_covers_eq (h0 : 0 < S.length) (hs : HS) : d__law_covers [.lst (S.map en)] hs = some (covV (covT S (S.length - 1)), hs) := by
  let P : Nat → Rho → Prop := fun k ρ => ∃ a b c d, ρ = [some (.val (.lst (S.map en))), some (.val (en S.length)), some (.own (covV (covT S k))), a, b, c, d]
  let bd : DS := (dsSeq (dsSet .val 5 (dCall (un sortedI) (dCons (dLc [6] (dIt (dTup (dCons (dV 3) (dCons (dV 4) dNil)))) (dgN 6) dYes (dMth lixP (dV 0) (dCons (dBin modP (dCall (un intP) (dCons (dBin addP (dV 6) (dC (.int 1))) dNil)) (dV 1)) dNil))) dNil)))
    (dsMut 2 apP (dCons (dBin (rgP .tup) (dBin ixP (dV 5) (dC (.int 0))) (dBin ixP (dV 5) (dC (.int 1)))) dNil)))
  obtain ⟨ρ', e, a, b, c, d, q⟩ := for_ix (tg := dgT 2 (dgCons (dgN 3) (dgCons (dgN 4) dgNil))) (s1 := bd) (hs := hs) P (List.zipWith (fun x y => PV.tup [x, y]) (S.map en) ((S.map en).drop 1)) 0 [some (.val (.lst (S.map en))), some (.val (en S.length)), some (.own (.lst [])), none, none, none, none] ⟨none, none, none, none, rfl⟩ (fun k x ρ m ⟨a, b, c, d, e⟩ => by
    subst e
    rw [Nat.zero_add]
    have hk := (List.getElem?_eq_some_iff.mp m).1
    simp only [List.length_zipWith, List.length_map, List.length_drop] at hk
    have hx : x = .tup [en (S.getD k 0), en (S.getD (k + 1) 0)] := by
      rw [List.getElem?_zipWith, List.getElem?_drop, List.getElem?_map, List.getElem?_map, List.getElem?_eq_getElem (show k < S.length by omega), List.getElem?_eq_getElem (show 1 + k < S.length by omega)] at m
      cases m
      have e1 : S.getD k 0 = S[k] := by rw [List.getD_eq_getElem?_getD, List.getElem?_eq_getElem (by omega)]; rfl
      have e2 : S.getD (k + 1) 0 = S[1 + k] := by rw [List.getD_eq_getElem?_getD, show k + 1 = 1 + k by omega, List.getElem?_eq_getElem (by omega)]; rfl
      rw [e1, e2]
    subst hx
    have hlen : (covT S k).length = k := by simp [covT]
    have hi : ∀ v, S.idxOf v ≤ S.length := fun v => List.idxOf_le_length
    have key := lc_all (tg := dgN 6) (t := dYes) (ρ := wipeR [some (.val (.lst (S.map en))), some (.val (en S.length)), some (.own (covV (covT S k))), some (.val (en (S.getD k 0))), some (.val (en (S.getD (k + 1) 0))), c, d] [6]) (hs := hs) (e := dMth lixP (dV 0) (dCons (dBin modP (dCall (un intP) (dCons (dBin addP (dV 6) (dC (.int 1))) dNil)) (dV 1)) dNil)) en (fun v => en (S.idxOf ((v + 1) % S.length))) [S.getD k 0, S.getD (k + 1) 0] (fun v mv => ⟨_, rfl, rfl, vMth (vV rfl) (vCons (vBin (vCall (vCons (vBin (vV rfl) vC rfl) vNil) (int_int _)) (vV rfl) (next_mod v S.length h0)) vNil) (lix_eq S _ (hS _ (Nat.mod_lt _ h0)))⟩)
    refine ⟨_, _, rfl, xSeq (xSet (vCall (vCons (vLc (vIt (vTup (vCons (vV rfl) (vCons (vV rfl) vNil)) (by rw [szl]; simp)) rfl) (by rw [szl]; simp) key) vNil) (sort2 _ _))) (xMut (vCons (vBin (vBin (vV rfl) vC rfl) (vBin (vV rfl) vC rfl) (rg_tup _ _ ?_ ?_)) vNil) rfl (app_cov (by omega))), _, _, _, _, by rw [covT_succ]; rfl⟩
    · have := hi ((S.getD k 0 + 1) % S.length); have := hi ((S.getD (k + 1) 0 + 1) % S.length); omega
    · have := hi ((S.getD k 0 + 1) % S.length); have := hi ((S.getD (k + 1) 0 + 1) % S.length); omega)
  subst q
  have ez : (0 + (List.zipWith (fun x y => PV.tup [x, y]) (S.map en) ((S.map en).drop 1)).length) = S.length - 1 := by simp <;> omega
  rw [ez] at e
  refine dRet (xSeq (xPar (vCall (vCons (vV rfl) vNil) (by rw [len_lst, List.length_map])) (vLst vNil (by decide +kernel))) (xSeq (xFor (vItA (vCons (vV rfl) (vCons (vSl (vV rfl) (vSo vC) vNo (sl_lst_from (k := 1))) vNil)) rfl) e) (xFrz rfl (xRet (vV rfl)))))
end
/-- the program's dict of places -/
def dT : Nat → List Nat → List (PV × PV)
  | _, [] => []
  | j, s :: r => (en s, en j) :: dT (j + 1) r
theorem keq_en (a b : Nat) : keqP (en a) (en b) = decide (a = b) := by
  show (((a : Int)) == ((b : Int))) = _
  rw [Bool.eq_iff_iff, beq_iff_eq, decide_eq_true_eq]
  omega
theorem look_dT : ∀ (T : List Nat) (j v : Nat), v ∈ T → lookP (dT j T) (en v) = some (en (j + T.idxOf v))
  | a :: T, j, v, h => by
    unfold dT lookP
    rw [keq_en, List.idxOf_cons]
    by_cases q : a = v
    · subst q; simp
    · rw [decide_eq_false q, if_neg (by decide), show (a == v) = false from beq_eq_false_iff_ne.mpr q]
      have hv : v ∈ T := by
        rcases List.mem_cons.mp h with h | h
        · exact absurd h.symm q
        · exact h
      rw [look_dT T (j + 1) v hv]
      simp only [cond_false]
      congr 2
      omega
theorem dc_dT {ρ : Rho} {hs : HS} : ∀ (T : List Nat) (j : Nat) (acc : List (PV × PV)), T.Nodup → (∀ s ∈ T, acc.any (fun kv => keqP kv.1 (en s)) = false) →
    (∀ x y, ∃ ρ1, (dgT 2 (dgCons (dgN 2) (dgCons (dgN 6) dgNil))) (.tup [x, y]) ρ = some ρ1 ∧ dV 6 ρ1 hs = some (y, hs) ∧ dV 2 ρ1 hs = some (x, hs)) →
    dcGo (dgT 2 (dgCons (dgN 2) (dgCons (dgN 6) dgNil))) dYes (dV 6) (dV 2) ρ (enumL j (T.map en)) acc hs = some (acc ++ dT j T, hs)
  | [], j, acc, _, _, _ => by simp [enumL, dcGo, dT]
  | s :: T, j, acc, hn, hk, h => by
    obtain ⟨ρ1, e1, e2, e3⟩ := h (.int (j : Nat)) (en s)
    rw [List.map_cons]
    show dcGo (dgT 2 (dgCons (dgN 2) (dgCons (dgN 6) dgNil))) dYes (dV 6) (dV 2) ρ (.tup [.int (j : Nat), en s] :: enumL (j + 1) (T.map en)) acc hs = _
    rw [dcNx e1 rfl e2 e3 rfl]
    have ep : putP acc (en s) (.int (j : Nat)) = acc ++ [(en s, en j)] := by
      unfold putP
      rw [hk s (List.mem_cons_self ..), if_neg (by decide)]
    rw [ep]
    obtain ⟨n1, n2⟩ := List.nodup_cons.mp hn
    rw [dc_dT T (j + 1) (acc ++ [(en s, en j)]) n2 (fun t mt => by
      rw [List.any_append, hk t (List.mem_cons_of_mem _ mt), Bool.false_or]
      simp only [List.any_cons, List.any_nil, Bool.or_false, keq_en, decide_eq_false_iff_not]
      intro q
      subst q
      exact n1 mt) h]
    simp [dT]
theorem raw_covers_eq {w : List Nat} (h : Wd w) (hs : HS) : d_raw_covers [.str w] hs = some (covV (covT (stG (cmpR w) w.length) (w.length - 1)), hs) := by
  have hl := h.hi
  have h0 := h.lo
  have hst := stands_raw h.vld (by omega) hs
  have hSl := stG_len (cmpR w) w.length
  have hSa := stG_all (cmpR w) w.length
  have hSn := stG_nodup (cmpR w) w.length
  generalize stG (cmpR w) w.length = S at hst hSl hSa hSn
  let ρ0 : Rho := [some (.val (.str w)), none, none, some (.val (.lst (S.map en))), some (.own (.lst [])), none, none, none]
  have ed : dDc [2, 6] (dItA enumP (dCons (dV 3) dNil)) (dgT 2 (dgCons (dgN 2) (dgCons (dgN 6) dgNil))) dYes (dV 6) (dV 2) ρ0 hs = some (.dct (dT 0 S), hs) := by
    have e1 : dItA enumP (dCons (dV 3) dNil) ρ0 hs = some (enumL 0 (S.map en), hs) := vItA (vCons (vV rfl) vNil) rfl
    unfold dDc
    rw [e1]
    dsimp only
    rw [szl, if_pos (by rw [enumL_len, List.length_map]; omega), dc_dT S 0 [] hSn (fun _ _ => rfl) (fun x y => ⟨_, rfl, vV rfl, vV rfl⟩)]
    rfl
  let P : Nat → Rho → Prop := fun k ρ => ∃ a b c d, ρ = [some (.val (.str w)), some (.val (.dct (dT 0 S))), a, some (.val (.lst (S.map en))), some (.own (covV (covT S k))), b, c, d]
  let bd : DS := (dsSeq (dsSet .val 5 (dCall (un sortedI) (dCons (dLc [7] (dIt (dTup (dCons (dC (.int 0)) (dCons (dC (.int 1)) dNil)))) (dgN 7) dYes (dBin dgP (dV 1) (dBin modP (dBin addP (dBin ixP (dV 3) (dBin addP (dV 2) (dV 7))) (dC (.int 1))) (dCall (un lenP) (dCons (dV 0) dNil))))) dNil)))
    (dsMut 4 apP (dCons (dBin (rgP .tup) (dBin ixP (dV 5) (dC (.int 0))) (dBin ixP (dV 5) (dC (.int 1)))) dNil)))
  obtain ⟨ρ', e, a, b, c, d, rfl⟩ := for_range (tg := dgN 2) (s1 := bd) (hs := hs) (ρ := [some (.val (.str w)), some (.val (.dct (dT 0 S))), none, some (.val (.lst (S.map en))), some (.own (.lst [])), none, none, none]) (w.length - 1) P ⟨none, none, none, none, rfl⟩ (fun k ρ hk ⟨a, b, c, d, e⟩ => by
    subst e
    have hlen : (covT S k).length = k := by simp [covT]
    have hi : ∀ v, S.idxOf v ≤ S.length := fun v => List.idxOf_le_length
    have hix : ∀ j, j < S.length → ixP (.lst (S.map en)) (.int (j : Int)) = some (en (S.getD j 0)) := fun j hj => by
      rw [ix_lst, List.getElem?_map, List.getElem?_eq_getElem hj, List.getD_eq_getElem?_getD, List.getElem?_eq_getElem hj]
      rfl
    have hdg : ∀ v, v < S.length → dgP (.dct (dT 0 S)) (en v) = some (en (S.idxOf v)) := fun v hv => by
      have := look_dT S 0 v (hSa v (by omega))
      rw [Nat.zero_add] at this
      exact this
    have key := lc_all (tg := dgN 7) (t := dYes) (ρ := wipeR [some (.val (.str w)), some (.val (.dct (dT 0 S))), some (.val (en k)), some (.val (.lst (S.map en))), some (.own (covV (covT S k))), b, c, d] [7]) (hs := hs) (e := dBin dgP (dV 1) (dBin modP (dBin addP (dBin ixP (dV 3) (dBin addP (dV 2) (dV 7))) (dC (.int 1))) (dCall (un lenP) (dCons (dV 0) dNil)))) en (fun v => en (S.idxOf ((S.getD (k + v) 0 + 1) % S.length))) [0, 1] (fun v mv => by
      have hv : k + v < S.length := by
        simp only [List.mem_cons, List.not_mem_nil, or_false] at mv
        omega
      exact ⟨_, rfl, rfl, vBin (vV rfl) (vBin (vBin (vBin (vV rfl) (vBin (vV rfl) (vV rfl) (z := .int ((k + v : Nat) : Int)) rfl) (hix _ hv)) vC rfl) (vCall (vCons (vV rfl) vNil) (len_str (by omega))) (by rw [← hSl]; exact next_mod _ S.length (by omega))) (hdg _ (Nat.mod_lt _ (by omega)))⟩)
    refine ⟨_, _, rfl, xSeq (xSet (vCall (vCons (vLc (vIt (vTup (vCons vC (vCons vC vNil)) (by rw [szl]; simp)) rfl) (by rw [szl]; simp) key) vNil) (sort2 _ _))) (xMut (vCons (vBin (vBin (vV rfl) vC rfl) (vBin (vV rfl) vC rfl) (rg_tup _ _ ?_ ?_)) vNil) rfl (app_cov (by omega))), _, _, _, _, by rw [covT_succ]; rfl⟩
    · have := hi ((S.getD (k + 0) 0 + 1) % S.length); have := hi ((S.getD (k + 1) 0 + 1) % S.length); omega
    · have := hi ((S.getD (k + 0) 0 + 1) % S.length); have := hi ((S.getD (k + 1) 0 + 1) % S.length); omega)
  have esub : subP (.int (S.length : Int)) (.int 1) = some (.int ((w.length - 1 : Nat) : Int)) := by
    show some (PV.int ((S.length : Int) - 1)) = _
    congr 2
    omega
  exact dRet (xSeq (xPar (vFn (vCons (vV rfl) vNil) hst) (vLst vNil (by decide +kernel))) (xSeq (xSet ed) (xSeq (xFor (vItA (vCons (vBin (vCall (vCons (vV rfl) vNil) (by rw [len_lst, List.length_map])) vC esub) vNil) (rng_nat _ (by omega))) e) (xFrz rfl (xRet (vV rfl))))))
theorem covers_of_eq {w : List Nat} (h : Wd w) (hs : HS) : d_covers_of [.str w] hs = some (.tup ((covT (stG (cmpR w) w.length) (w.length - 1)).map fun lot => .tup (lot.map en)), hs) :=
  dRet (xSeq (xDrop (vFn (vCons (vV rfl) vNil) (check_long_eq h hs))) (xRet (vCall (vCons (vFn (vCons (vV rfl) vNil) (raw_covers_eq h hs)) vNil) rfl)))
end K14

set_option Elab.async false
set_option linter.all false
set_option maxRecDepth 100000
set_option maxHeartbeats 1000000
/-! k14, plain part g: trails, traces of the program; how great they are. -/
namespace K14
open PL PySem PySem.Spec PyProof.Rows L2
theorem is_integer_eq (n : Nat) (hs : HS) : d_is_integer [en n] hs = some (.bl true, hs) :=
  dRet (xRet (vTV (vAndT (vbl (vUn (vV rfl) rfl)) (vbl (vTV (vNotF (vTru (vUn (vV rfl) rfl) (tru_bl _))))))))
theorem is_within_eq (n lo hi : Nat) (h1 : lo ≤ n) (h2 : n ≤ hi) (hs : HS) : d_is_within [en n, en lo, en hi] hs = some (.bl true, hs) := by
  refine dRet (xRet (vTV (vAndT (vbl (vFn (vCons (vV rfl) vNil) (is_integer_eq n hs))) (vbl (vChT (vV rfl) (vV rfl) ?_ (vV rfl) ?_)))))
  · show some (PV.bl (decide ((lo : Int) ≤ (n : Int)))) = _
    rw [decide_eq_true (by omega)]
  · show some (PV.bl (decide ((n : Int) ≤ (hi : Int)))) = _
    rw [decide_eq_true (by omega)]
theorem check_steps_eq {w : List Nat} (h : Wd w) (n lo : Nat) (h1 : lo ≤ n) (h2 : n ≤ 200) (hs : HS) : d_check_steps [.str w, en n, en lo] hs = some (.non, hs) :=
  dNx (xSeq (xDrop (vFn (vCons (vV rfl) vNil) (check_long_eq h hs))) (xIfF (vNotT (vTru (vFn (vCons (vV rfl) (vCons (vV rfl) (vCons vC vNil))) (is_within_eq n lo 200 h1 h2 hs)) (tru_bl _))) xSkip))
def covW (w : List Nat) : List (List Nat) := covT (stG (cmpR w) w.length) (w.length - 1)
theorem covW_len (w : List Nat) : (covW w).length = w.length - 1 := by simp [covW, covT]
theorem lotO_mem {S : List Nat} {i j : Nat} (h : j ∈ lotO S i) : j + 1 ≤ S.length ∨ S.length ≤ j → True := fun _ => trivial
theorem lotO_lt {S : List Nat} (hS : ∀ v, v < S.length → v ∈ S) (h0 : 0 < S.length) {i j : Nat} (h : j ∈ lotO S i) : j < S.length - 1 := by
  have a1 : S.idxOf ((S.getD i 0 + 1) % S.length) < S.length := List.idxOf_lt_length_iff.mpr (hS _ (Nat.mod_lt _ h0))
  have a2 : S.idxOf ((S.getD (i + 1) 0 + 1) % S.length) < S.length := List.idxOf_lt_length_iff.mpr (hS _ (Nat.mod_lt _ h0))
  unfold lotO at h
  simp only [List.mem_range'_1] at h
  omega
theorem lotO_len {S : List Nat} (hS : ∀ v, v < S.length → v ∈ S) (h0 : 0 < S.length) (i : Nat) : (lotO S i).length ≤ S.length := by
  have a1 : S.idxOf ((S.getD i 0 + 1) % S.length) < S.length := List.idxOf_lt_length_iff.mpr (hS _ (Nat.mod_lt _ h0))
  have a2 : S.idxOf ((S.getD (i + 1) 0 + 1) % S.length) < S.length := List.idxOf_lt_length_iff.mpr (hS _ (Nat.mod_lt _ h0))
  unfold lotO
  simp only [List.length_range']
  omega
theorem covW_ok {w : List Nat} (h : Wd w) : okC (covW w) := fun lot hl j hj => by
  obtain ⟨i, hi, rfl⟩ := List.mem_map.mp hl
  have hSl := stG_len (cmpR w) w.length
  have := lotO_lt (S := stG (cmpR w) w.length) (by rw [hSl]; exact stG_all _ _) (by rw [hSl]; have := h.lo; omega) hj
  rw [covW_len]
  rw [hSl] at this
  exact this
theorem covW_lot {w : List Nat} (h : Wd w) : ∀ lot ∈ covW w, lot.length ≤ 16 := fun lot hl => by
  obtain ⟨i, hi, rfl⟩ := List.mem_map.mp hl
  have hSl := stG_len (cmpR w) w.length
  have := lotO_len (S := stG (cmpR w) w.length) (by rw [hSl]; exact stG_all _ _) (by rw [hSl]; have := h.lo; omega) i
  rw [hSl] at this
  have := h.hi
  omega
theorem trails_eq {w : List Nat} (h : Wd w) (n : Nat) (hn : n ≤ 200) (hs : HS) : d_trails_many [.str w, en n] hs = some (.int (itT (covW w) n (List.replicate (covW w).length 1)).sum, hs) := by
  have hC := covW_ok h
  have hl : (covW w).length ≤ 1000 := by rw [covW_len]; have := h.hi; omega
  have hc := raw_covers_eq h hs
  have e0 : covT (stG (cmpR w) w.length) (w.length - 1) = covW w := rfl
  rw [e0] at hc
  generalize covW w = C at hC hl hc
  let P : Nat → Rho → Prop := fun k ρ => ∃ a, ρ = [some (.val (.str w)), some (.val (en n)), some (.val (covV C)), some (.val (rowV (itT C k (List.replicate C.length 1)))), a]
  obtain ⟨ρ', e, a, rfl⟩ := for_range (tg := dgN 4) (s1 := dsSet .val 3 (dFn d_led_on (dCons (dV 2) (dCons (dV 3) dNil)))) (hs := hs) (ρ := [some (.val (.str w)), some (.val (en n)), some (.val (covV C)), some (.val (rowV (List.replicate C.length 1))), none]) n P ⟨none, rfl⟩ (fun k ρ hk ⟨a, e⟩ => by
    subst e
    exact ⟨_, _, rfl, xSet (vFn (vCons (vV rfl) (vCons (vV rfl) vNil)) (led_on_eq hC (itT_len C _ (by simp) k) hl hs)), _, rfl⟩)
  exact dRet (xSeq (xDrop (vFn (vCons (vV rfl) (vCons (vV rfl) (vCons vC vNil))) (check_steps_eq h n 0 (Nat.zero_le _) hn hs))) (xSeq (xSet (vFn (vCons (vV rfl) vNil) hc)) (xSeq (xSet (vBin (vLst (vCons vC vNil) (by decide +kernel)) (vCall (vCons (vV rfl) vNil) len_lst) (by rw [List.length_map]; exact rep_row 1 _ (by omega)))) (xSeq (xFor (vItA (vCons (vV rfl) vNil) (rng_nat n (by omega))) e) (xRet (vCall (vCons (vV rfl) vNil) (sum_row _)))))))
theorem trace_eq {w : List Nat} (h : Wd w) (n : Nat) (h1 : 1 ≤ n) (hn : n ≤ 200) (hs : HS) : d_trace_by [.str w, en n] hs = some (.int (trcT (covW w) n (covW w).length), hs) := by
  have hC := covW_ok h
  have hl : (covW w).length ≤ 1000 := by rw [covW_len]; have := h.hi; omega
  have hc := raw_covers_eq h hs
  have e0 : covT (stG (cmpR w) w.length) (w.length - 1) = covW w := rfl
  rw [e0] at hc
  generalize covW w = C at hC hl hc
  let P : Nat → Rho → Prop := fun k ρ => ∃ a b c d, ρ = [some (.val (.str w)), some (.val (en n)), a, some (.val (covV C)), some (.val (.int (trcT C n k))), b, c, d]
  let bd : DS := (dsSeq (dsSet .val 5 (dLc [7] (dItA rngP (dCons (dCall (un lenP) (dCons (dV 3) dNil)) dNil)) (dgN 7) dYes (dCall (un intP) (dCons (dBin eqP (dV 7) (dV 2)) dNil))))
    (dsSeq (dsFor (dgN 6) (dItA rngP (dCons (dV 1) dNil)) (dsSet .val 5 (dFn d_led_on (dCons (dV 3) (dCons (dV 5) dNil)))))
    (dsAug addI 4 (dBin ixP (dV 5) (dV 2)))))
  obtain ⟨ρ', e, a, b, c, d, rfl⟩ := for_range (tg := dgN 2) (s1 := bd) (hs := hs) (ρ := [some (.val (.str w)), some (.val (en n)), none, some (.val (covV C)), some (.val (.int 0)), none, none, none]) C.length P ⟨none, none, none, none, rfl⟩ (fun k ρ hk ⟨a, b, c, d, e⟩ => by
    subst e
    let Q : Nat → Rho → Prop := fun m ρ => ∃ c, ρ = [some (.val (.str w)), some (.val (en n)), some (.val (en k)), some (.val (covV C)), some (.val (.int (trcT C n k))), some (.val (rowV (itT C m (unT C.length k)))), c, d]
    obtain ⟨ρ2, e2, c2, rfl⟩ := for_range (tg := dgN 6) (s1 := dsSet .val 5 (dFn d_led_on (dCons (dV 3) (dCons (dV 5) dNil)))) (hs := hs) (ρ := [some (.val (.str w)), some (.val (en n)), some (.val (en k)), some (.val (covV C)), some (.val (.int (trcT C n k))), some (.val (rowV (unT C.length k))), c, d]) n Q ⟨c, rfl⟩ (fun m ρ hm ⟨c, e⟩ => by
      subst e
      exact ⟨_, _, rfl, xSet (vFn (vCons (vV rfl) (vCons (vV rfl) vNil)) (led_on_eq hC (itT_len C _ (by simp [unT]) m) hl hs)), _, rfl⟩)
    refine ⟨_, _, rfl, xSeq (xSet (vLc (vItA (vCons (vCall (vCons (vV rfl) vNil) len_lst) vNil) (by rw [List.length_map]; exact rng_nat C.length (by omega))) (by rw [szl]; simp; omega) (unit_eq (fun j => ⟨_, rfl, vV rfl, vV rfl⟩)))) (xSeq (xFor (vItA (vCons (vV rfl) vNil) (rng_nat n (by omega))) e2) (xAug rfl (vBin (vV rfl) (vV rfl) (ix_row (by rw [itT_len C _ (by simp [unT])]; exact hk))) rfl)), _, _, _, _, rfl⟩)
  exact dRet (xSeq (xDrop (vFn (vCons (vV rfl) (vCons (vV rfl) (vCons vC vNil))) (check_steps_eq h n 1 h1 hn hs))) (xSeq (xPar (vFn (vCons (vV rfl) vNil) hc) vC) (xSeq (xFor (vItA (vCons (vCall (vCons (vV rfl) vNil) len_lst) vNil) (by rw [List.length_map]; exact rng_nat C.length (by omega))) e) (xRet (vV rfl)))))

/-! how great -/
def NN (r : List Int) : Prop := ∀ v ∈ r, 0 ≤ v
theorem add_nn {v : Int} {f : List Int} {j : Nat} (hv : 0 ≤ v) (hf : NN f) : NN (addT v f j) := fun x hx => by
  unfold addT at hx
  rcases List.mem_or_eq_of_mem_set hx with h | h
  · exact hf x h
  · subst h
    have : 0 ≤ f.getD j 0 := by
      rw [List.getD_eq_getElem?_getD]
      cases q : f[j]? with
      | none => exact Int.le_refl _
      | some y => exact hf y (List.mem_of_getElem? q)
    omega
theorem set_sum : ∀ (f : List Int) (j : Nat) (v : Int), 0 ≤ v → (addT v f j).sum ≤ f.sum + v
  | [], j, v, hv => by simp [addT]; omega
  | a :: f, 0, v, hv => by
    show (a + v) + f.sum ≤ (a + f.sum) + v
    omega
  | a :: f, j + 1, v, hv => by
    have := set_sum f j v hv
    show a + (addT v f j).sum ≤ (a + f.sum) + v
    omega
theorem lotf_nn {v : Int} (hv : 0 ≤ v) : ∀ (lot : List Nat) (f : List Int), NN f → NN (lot.foldl (addT v) f) ∧ (lot.foldl (addT v) f).sum ≤ f.sum + lot.length * v
  | [], f, h => ⟨h, by simp⟩
  | j :: lot, f, h => by
    obtain ⟨h1, h2⟩ := lotf_nn hv lot (addT v f j) (add_nn hv h)
    refine ⟨h1, ?_⟩
    have h3 := set_sum f j v hv
    rw [List.foldl_cons, List.length_cons]
    have : ((lot.length + 1 : Nat) : Int) * v = (lot.length : Int) * v + v := by rw [Int.natCast_succ, Int.add_mul, Int.one_mul]
    omega
theorem lots_nn : ∀ (l : List (List Nat × Int)) (f : List Int), NN f → (∀ p ∈ l, 0 ≤ p.2 ∧ p.1.length ≤ 16) → NN (l.foldl lotT f) ∧ (l.foldl lotT f).sum ≤ f.sum + 16 * (l.map (·.2)).sum
  | [], f, h, _ => ⟨h, by simp⟩
  | p :: l, f, h, hp => by
    obtain ⟨p1, p2⟩ := hp p (List.mem_cons_self ..)
    obtain ⟨a1, a2⟩ := lotf_nn p1 p.1 f h
    obtain ⟨h1, h2⟩ := lots_nn l (lotT f p) a1 (fun q m => hp q (List.mem_cons_of_mem _ m))
    refine ⟨h1, ?_⟩
    rw [List.foldl_cons, List.map_cons, List.sum_cons]
    have a3 : (p.1.length : Int) * p.2 ≤ 16 * p.2 := Int.mul_le_mul_of_nonneg_right (by omega) p1
    have a4 : (lotT f p).sum ≤ f.sum + (p.1.length : Int) * p.2 := a2
    omega
theorem step_nn {C : List (List Nat)} {r : List Int} (hr : NN r) (hl : r.length = C.length) (h16 : ∀ lot ∈ C, lot.length ≤ 16) : NN (stepT C r) ∧ (stepT C r).sum ≤ 16 * r.sum := by
  obtain ⟨h1, h2⟩ := lots_nn (C.zip r) (List.replicate C.length 0) (fun v hv => by rw [(List.mem_replicate.mp hv).2]; exact Int.le_refl _) (fun p hp => by
    have := List.of_mem_zip hp
    exact ⟨hr _ this.2, h16 _ this.1⟩)
  refine ⟨h1, ?_⟩
  have e1 : (C.zip r).map (·.2) = r := List.map_snd_zip (by omega)
  rw [e1] at h2
  have e2 : (List.replicate C.length (0 : Int)).sum = 0 := by simp
  rw [e2] at h2
  unfold stepT
  omega
theorem it_nn {C : List (List Nat)} {r : List Int} (hr : NN r) (hl : r.length = C.length) (h16 : ∀ lot ∈ C, lot.length ≤ 16) : ∀ n, NN (itT C n r) ∧ (itT C n r).sum ≤ 16 ^ n * r.sum
  | 0 => ⟨hr, by simp [itT]⟩
  | n + 1 => by
    obtain ⟨h1, h2⟩ := it_nn hr hl h16 n
    obtain ⟨h3, h4⟩ := step_nn h1 (itT_len C r hl n) h16
    refine ⟨h3, ?_⟩
    show (stepT C (itT C n r)).sum ≤ _
    have e : (16 : Int) ^ (n + 1) * r.sum = 16 * (16 ^ n * r.sum) := by rw [Int.pow_succ, Int.mul_comm (16 ^ n) 16, Int.mul_assoc]
    omega
theorem nn_sum : ∀ (r : List Int), NN r → 0 ≤ r.sum
  | [], _ => by simp
  | a :: r, h => by
    have h1 := h a (List.mem_cons_self ..)
    have h2 := nn_sum r (fun v m => h v (List.mem_cons_of_mem _ m))
    rw [List.sum_cons]
    omega
theorem nn_get : ∀ (r : List Int) (k : Nat), NN r → 0 ≤ r.getD k 0 ∧ r.getD k 0 ≤ r.sum
  | [], k, _ => by simp
  | a :: r, 0, h => by
    have h1 := h a (List.mem_cons_self ..)
    have h2 := nn_sum r (fun v m => h v (List.mem_cons_of_mem _ m))
    simp
    omega
  | a :: r, k + 1, h => by
    have h1 := h a (List.mem_cons_self ..)
    have h2 := nn_get r k (fun v m => h v (List.mem_cons_of_mem _ m))
    simp at h2 ⊢
    omega
theorem un_nn (n k : Nat) : NN (unT n k) := fun v hv => by
  obtain ⟨j, _, rfl⟩ := List.mem_map.mp hv
  split <;> omega
theorem un_sum (n k : Nat) : (unT n k).sum ≤ n := by
  unfold unT
  induction n with
  | zero => simp
  | succ n ih =>
    rw [List.range_succ, List.map_append, List.sum_append]
    simp only [List.map_cons, List.map_nil, List.sum_cons, List.sum_nil]
    split <;> omega
theorem big (x : Int) (h0 : 0 ≤ x) (h : x ≤ 16 ^ 200 * 256) : x.natAbs.log2 < 1920 := by
  by_cases q : x.natAbs = 0
  · rw [q]; decide
  · rw [Nat.log2_lt q]
    have e : (16 : Int) ^ 200 * 256 < ((2 ^ 1920 : Nat) : Int) := by decide +kernel
    omega
theorem pow_mono16 {n : Nat} (h : n ≤ 200) : (16 : Int) ^ n ≤ 16 ^ 200 := by
  have := Nat.pow_le_pow_right (n := 16) (by decide) h
  have e1 : ((16 ^ n : Nat) : Int) = (16 : Int) ^ n := by norm_cast
  have e2 : ((16 ^ 200 : Nat) : Int) = (16 : Int) ^ 200 := by norm_cast
  omega
theorem trails_big {C : List (List Nat)} (h16 : ∀ lot ∈ C, lot.length ≤ 16) (hl : C.length ≤ 16) (n : Nat) (hn : n ≤ 200) : (itT C n (List.replicate C.length 1)).sum.natAbs.log2 < 1920 := by
  obtain ⟨h1, h2⟩ := it_nn (r := List.replicate C.length 1) (fun v hv => by rw [(List.mem_replicate.mp hv).2]; decide) (by simp) h16 n
  refine big _ (nn_sum _ h1) ?_
  have e : (List.replicate C.length (1 : Int)).sum = C.length := by simp
  rw [e] at h2
  have h3 := pow_mono16 hn
  have h4 : (16 : Int) ^ n * (C.length : Int) ≤ 16 ^ 200 * 256 := Int.mul_le_mul h3 (by omega) (by omega) (by decide +kernel)
  omega
theorem trace_le {C : List (List Nat)} (h16 : ∀ lot ∈ C, lot.length ≤ 16) (hl : C.length ≤ 16) (n : Nat) (hn : n ≤ 200) : ∀ k, 0 ≤ trcT C n k ∧ trcT C n k ≤ k * (16 ^ 200 * 16)
  | 0 => by simp [trcT]
  | k + 1 => by
    obtain ⟨h1, h2⟩ := trace_le h16 hl n hn k
    obtain ⟨h3, h4⟩ := it_nn (r := unT C.length k) (un_nn _ _) (by simp [unT]) h16 n
    obtain ⟨h5, h6⟩ := nn_get _ k h3
    have h7 := un_sum C.length k
    have h8 := pow_mono16 hn
    have h9 : (16 : Int) ^ n * (unT C.length k).sum ≤ 16 ^ 200 * 16 := Int.mul_le_mul h8 (by omega) (nn_sum _ (un_nn _ _)) (by decide +kernel)
    have h10 : (((k + 1 : Nat) : Int)) * ((16 : Int) ^ 200 * 16) = (k : Int) * (16 ^ 200 * 16) + 16 ^ 200 * 16 := by rw [Int.natCast_succ, Int.add_mul, Int.one_mul]
    unfold trcT
    rw [h10]
    generalize (16 : Int) ^ 200 * 16 = X at *
    generalize (k : Int) * X = Y at *
    omega
theorem trace_big {C : List (List Nat)} (h16 : ∀ lot ∈ C, lot.length ≤ 16) (hl : C.length ≤ 16) (n : Nat) (hn : n ≤ 200) : (trcT C n C.length).natAbs.log2 < 1920 := by
  obtain ⟨h1, h2⟩ := trace_le h16 hl n hn C.length
  refine big _ h1 (Int.le_trans h2 ?_)
  have e : (C.length : Int) * ((16 : Int) ^ 200 * 16) ≤ 16 * (16 ^ 200 * 16) := Int.mul_le_mul_of_nonneg_right (by omega) (by decide +kernel)
  have e2 : (16 : Int) * (16 ^ 200 * 16) = 16 ^ 200 * 256 := by decide +kernel
  omega
end K14

set_option Elab.async false
set_option linter.all false
set_option maxRecDepth 100000
set_option maxHeartbeats 1000000
/-! k14, plain part h: the polynomial. -/
namespace K14
open PL PySem PySem.Spec PyProof.Rows L2
def trL (C : List (List Nat)) : List Int := (List.range' 1 C.length).map fun s => trcT C s C.length
def polM (tr f : List Int) (k : Nat) : List Int := (List.range' 1 k).map fun a => f.getD (k - a) 0 * tr.getD (a - 1) 0
def polS (tr : List Int) (f : List Int) (k : Nat) : List Int := f ++ [0 - (polM tr f k).sum / (k : Int)]
def polT (tr : List Int) (n : Nat) : List Int := (List.range' 1 n).foldl (polS tr) [1]
theorem pol_pre (tr : List Int) : ∀ (l : List Nat) (f : List Int), f <+: l.foldl (polS tr) f
  | [], f => List.prefix_refl f
  | k :: l, f => (List.prefix_append f _).trans (pol_pre tr l (polS tr f k))
theorem pol_len (tr : List Int) : ∀ (l : List Nat) (f : List Int), (l.foldl (polS tr) f).length = f.length + l.length
  | [], f => rfl
  | k :: l, f => by rw [List.foldl_cons, pol_len tr l, polS]; simp; omega
theorem mul_small {x y : Int} (h : smallI x = true) : mulP (.int x) (.int y) = some (.int (x * y)) := by
  have q : mulP (.int x) (.int y) = if smallI x || smallI y || decide (x.natAbs.log2 + y.natAbs.log2 < 1000000) then some (.int (x * y)) else none := by unfold mulP; rfl
  rw [q, h]
  rfl
theorem law_poly_eq {C : List (List Nat)} (hC : okC C) (hl : C.length ≤ 900) (hsm : ∀ v ∈ polT (trL C) C.length, smallI v = true) (hs : HS) : d__law_poly [covV C] hs = some (.tup ((polT (trL C) C.length).map .int), hs) := by
  have etr : dLc [4] (dItA rngP (dCons (dC (.int 1)) (dCons (dBin addP (dCall (un lenP) (dCons (dV 0) dNil)) (dC (.int 1))) dNil))) (dgN 4) dYes (dFn d__law_trace (dCons (dV 0) (dCons (dV 4) dNil))) [some (.val (covV C)), some (.own (.lst [.int 1])), none, none, none, none] hs = some (rowV (trL C), hs) := by
    refine vLc (vItA (vCons vC (vCons (vBin (vCall (vCons (vV rfl) vNil) len_lst) vC rfl) vNil)) (by rw [List.length_map]; exact rng_nat2 1 (C.length + 1) (by omega) (by omega))) (by rw [szl]; simp; omega) ?_
    rw [lc_all (fun (i : Nat) => PV.int i) (fun s => .int (trcT C s C.length)) (List.range' 1 (C.length + 1 - 1)) (fun s m => by
      have hs' : s ≤ 1000 := by
        rw [List.mem_range'_1] at m
        omega
      exact ⟨_, rfl, rfl, vFn (vCons (vV rfl) (vCons (vV rfl) vNil)) (law_trace_eq hC (by omega) s hs' hs)⟩)]
    simp [trL]
  have htl : (trL C).length = C.length := by simp [trL]
  generalize trL C = tr at hsm etr htl
  let P : Nat → Rho → Prop := fun k ρ => ∃ a b c, ρ = [some (.val (covV C)), some (.own (rowV (((List.range' 1 C.length).take k).foldl (polS tr) [1]))), some (.val (rowV tr)), a, b, c]
  let bd : DS := dsMut 1 apP (dCons (dBin subP (dC (.int 0)) (dBin fdivP (dCall (un sumP) (dCons (dLc [5] (dItA rngP (dCons (dC (.int 1)) (dCons (dBin addP (dV 3) (dC (.int 1))) dNil))) (dgN 5) dYes (dBin mulP (dBin ixP (dO 1) (dBin subP (dV 3) (dV 5))) (dBin ixP (dV 2) (dBin subP (dV 5) (dC (.int 1)))))) dNil)) (dV 3))) dNil)
  obtain ⟨ρ', e, a, b, c, q⟩ := for_ix (tg := dgN 3) (s1 := bd) (hs := hs) P ((List.range' 1 C.length).map fun (i : Nat) => PV.int i) 0 [some (.val (covV C)), some (.own (rowV [1])), some (.val (rowV tr)), none, none, none] ⟨none, none, none, rfl⟩ (fun k x ρ m ⟨a, b, c, e⟩ => by
    subst e
    rw [List.getElem?_map] at m
    obtain ⟨k', m1, rfl⟩ := Option.map_eq_some_iff.mp m
    obtain ⟨m2, m3⟩ := List.getElem?_eq_some_iff.mp m1
    rw [List.length_range'] at m2
    rw [List.getElem_range', Nat.one_mul] at m3
    rw [Nat.zero_add]
    have et : (List.range' 1 C.length).take (k + 1) = (List.range' 1 C.length).take k ++ [k'] := by rw [List.take_add_one, m1]; rfl
    have hflen : (((List.range' 1 C.length).take k).foldl (polS tr) [1]).length = k' := by
      rw [pol_len, List.length_take, List.length_range']
      simp
      omega
    have hsmall : ∀ v ∈ ((List.range' 1 C.length).take k).foldl (polS tr) [1], smallI v = true := fun v hv => by
      refine hsm v ?_
      have hp : (((List.range' 1 C.length).take k).foldl (polS tr) [1]) <+: polT tr C.length := by
        unfold polT
        conv => rhs; rw [← List.take_append_drop k (List.range' 1 C.length)]
        rw [List.foldl_append]
        exact pol_pre tr _ _
      exact hp.subset hv
    have estep : ((List.range' 1 C.length).take (k + 1)).foldl (polS tr) [1] = polS tr (((List.range' 1 C.length).take k).foldl (polS tr) [1]) k' := by rw [et, List.foldl_append]; rfl
    generalize ((List.range' 1 C.length).take k).foldl (polS tr) [1] = f at hflen hsmall estep
    have key : lcGo (dgN 5) dYes (dBin mulP (dBin ixP (dO 1) (dBin subP (dV 3) (dV 5))) (dBin ixP (dV 2) (dBin subP (dV 5) (dC (.int 1))))) (wipeR [some (.val (covV C)), some (.own (rowV f)), some (.val (rowV tr)), some (.val (en k')), b, c] [5]) ((List.range' 1 (k' + 1 - 1)).map fun (i : Nat) => PV.int i) hs = some ((polM tr f k').map .int, hs) := by
      rw [lc_all (fun (i : Nat) => PV.int i) (fun a => .int (f.getD (k' - a) 0 * tr.getD (a - 1) 0)) (List.range' 1 (k' + 1 - 1)) (fun a' ma => by
        rw [List.mem_range'_1] at ma
        have e1 : subP (.int (k' : Int)) (.int (a' : Int)) = some (.int ((k' - a' : Nat) : Int)) := by
          have q : (k' : Int) - (a' : Int) = ((k' - a' : Nat) : Int) := by omega
          rw [← q]
          rfl
        have e2 : subP (.int (a' : Int)) (.int 1) = some (.int ((a' - 1 : Nat) : Int)) := by
          have q : (a' : Int) - 1 = ((a' - 1 : Nat) : Int) := by omega
          rw [← q]
          rfl
        have e3 : smallI (f.getD (k' - a') 0) = true := by
          rw [List.getD_eq_getElem?_getD, List.getElem?_eq_getElem (by omega)]
          exact hsmall _ (List.getElem_mem _)
        exact ⟨_, rfl, rfl, vBin (vBin (vO rfl) (vBin (vV rfl) (vV rfl) e1) (ix_row (by omega))) (vBin (vV rfl) (vBin (vV rfl) vC e2) (ix_row (by omega))) (mul_small e3)⟩)]
      simp [polM]
    have ediv : fdivP (.int (polM tr f k').sum) (.int (k' : Int)) = some (.int ((polM tr f k').sum / (k' : Int))) := by
      have q : fdivP (.int (polM tr f k').sum) (.int (k' : Int)) = if 0 < (k' : Int) ∧ ((k' : Int) < 2 ^ 64 ∨ (k' : Int).natAbs.log2 < 9000) then some (.int ((polM tr f k').sum / (k' : Int))) else none := by unfold fdivP; rfl
      rw [q, if_pos ⟨by omega, .inl (by omega)⟩]
    refine ⟨_, _, rfl, xMut (vCons (vBin vC (vBin (vCall (vCons (vLc (vItA (vCons vC (vCons (vBin (vV rfl) vC rfl) vNil)) (rng_nat2 1 (k' + 1) (by omega) (by omega))) (by rw [szl]; simp; omega) key) vNil) (sum_row _)) (vV rfl) ediv) rfl) vNil) rfl (app_row (by omega)), _, _, _, by rw [estep]; rfl⟩)
  subst q
  have ez : (0 + ((List.range' 1 C.length).map fun (i : Nat) => PV.int i).length) = C.length := by simp
  rw [ez, List.take_of_length_le (by simp)] at e
  exact dRet (xSeq (xSet (vLst (vCons vC vNil) (by decide +kernel))) (xSeq (xSet etr) (xSeq (xFor (vItA (vCons vC (vCons (vBin (vCall (vCons (vV rfl) vNil) len_lst) vC rfl) vNil)) (by rw [List.length_map]; exact rng_nat2 1 (C.length + 1) (by omega) (by omega))) (by rw [Nat.add_sub_cancel]; exact e)) (xRet (vCall (vCons (vO rfl) vNil) rfl)))))

/-! the traces, all at once -/
def orb (C : List (List Nat)) (k : Nat) : Nat → List Int → List Int
  | 0, _ => []
  | m + 1, r => let r' := stepT C r; r'.getD k 0 :: orb C k m r'
theorem it_comm (C : List (List Nat)) : ∀ n r, itT C n (stepT C r) = itT C (n + 1) r
  | 0, r => rfl
  | n + 1, r => by
    show stepT C (itT C n (stepT C r)) = stepT C (itT C (n + 1) r)
    rw [it_comm C n r]
theorem orb_get (C : List (List Nat)) (k : Nat) : ∀ m r i, i < m → (orb C k m r).getD i 0 = (itT C (i + 1) r).getD k 0
  | m + 1, r, 0, _ => rfl
  | m + 1, r, i + 1, h => by
    show (orb C k m (stepT C r)).getD i 0 = _
    rw [orb_get C k m (stepT C r) i (by omega), it_comm]
theorem orb_len (C : List (List Nat)) (k : Nat) : ∀ m r, (orb C k m r).length = m
  | 0, r => rfl
  | m + 1, r => by show (orb C k m _).length + 1 = _; rw [orb_len C k m]
def trF (C : List (List Nat)) (n m : Nat) : Nat → List Int
  | 0 => List.replicate m 0
  | k + 1 => List.zipWith (· + ·) (trF C n m k) (orb C k m (unT n k))
theorem trF_len (C : List (List Nat)) (n m : Nat) : ∀ k, (trF C n m k).length = m
  | 0 => by simp [trF]
  | k + 1 => by rw [trF, List.length_zipWith, trF_len C n m k, orb_len]; omega
theorem trF_get (C : List (List Nat)) (m : Nat) : ∀ k i, i < m → (trF C C.length m k).getD i 0 = trcT C (i + 1) k
  | 0, i, h => by simp [trF, trcT, List.getD_eq_getElem?_getD, h]
  | k + 1, i, h => by
    have h1 := trF_len C C.length m k
    have h2 := orb_len C k m (unT C.length k)
    have e1 := trF_get C m k i h
    have e2 := orb_get C k m (unT C.length k) i h
    rw [List.getD_eq_getElem?_getD, List.getElem?_eq_getElem (by omega)] at e1 e2
    unfold trF trcT
    rw [List.getD_eq_getElem?_getD, List.getElem?_zipWith, List.getElem?_eq_getElem (by omega), List.getElem?_eq_getElem (by omega)]
    simp only [Option.getD_some] at e1 e2 ⊢
    rw [e1, e2]
theorem trF_eq (C : List (List Nat)) : trL C = trF C C.length C.length C.length := by
  refine List.ext_getElem (by rw [trF_len]; simp [trL]) fun i h1 h2 => ?_
  have e := trF_get C C.length C.length i (by rw [trF_len] at h2; exact h2)
  rw [List.getD_eq_getElem?_getD, List.getElem?_eq_getElem h2] at e
  simp only [Option.getD_some] at e
  rw [e]
  simp [trL]
  congr 1
  omega
end K14

set_option Elab.async false
set_option linter.all false
set_option maxRecDepth 100000
set_option maxHeartbeats 1000000
/-! k14, plain part i: the hand, what it draws. -/
namespace K14
open PL PySem PySem.Spec PyProof.Rows L2
def HOK (hs : HS) : Prop := ∃ (cells : List Int) (p : Nat) (q s c : Int), hs = [.lst (cells.map .int), .int (p : Int), .int q, .int s, .int c]
theorem mod_pos {x m : Int} (h : 0 < m) : modP (.int x) (.int m) = some (.int (x % m)) := by
  have q : modP (.int x) (.int m) = if 0 < m then some (.int (x % m)) else none := by unfold modP; rfl
  rw [q, if_pos h]
theorem div_pos {x m : Int} (h : 0 < m) (h2 : m < 2 ^ 64) : fdivP (.int x) (.int m) = some (.int (x / m)) := by
  have q : fdivP (.int x) (.int m) = if 0 < m ∧ (m < 2 ^ 64 ∨ m.natAbs.log2 < 9000) then some (.int (x / m)) else none := by unfold fdivP; rfl
  rw [q, if_pos ⟨h, .inl h2⟩]
theorem mul_smallR {x y : Int} (h : smallI y = true) : mulP (.int x) (.int y) = some (.int (x * y)) := by
  have q : mulP (.int x) (.int y) = if smallI x || smallI y || decide (x.natAbs.log2 + y.natAbs.log2 < 1000000) then some (.int (x * y)) else none := by unfold mulP; rfl
  rw [q, h, Bool.or_true, Bool.true_or]
  rfl
theorem pow_int {i j : Int} (h0 : 0 ≤ j) (h1 : j ≤ 1000000) (h2 : i.natAbs < 18446744073709551616) : powP (.int i) (.int j) = some (.int (i ^ j.toNat)) := by
  have q : powP (.int i) (.int j) = if 0 ≤ j ∧ j ≤ 1000000 ∧ i.natAbs < 2 ^ 64 then some (.int (i ^ j.toNat)) else none := by unfold powP; rfl
  rw [q, if_pos ⟨h0, h1, by omega⟩]
theorem pow_15 : powP (.int 10) (.int 15) = some (.int 1000000000000000) := by
  rw [pow_int (by decide) (by decide) (by decide)]
  have e : (10 : Int) ^ (15 : Int).toNat = 1000000000000000 := by decide +kernel
  rw [e]
theorem pow_36 : powP (.int 10) (.int 36) = some (.int 1000000000000000000000000000000000000) := by
  rw [pow_int (by decide) (by decide) (by decide)]
  have e : (10 : Int) ^ (36 : Int).toNat = 1000000000000000000000000000000000000 := by decide +kernel
  rw [e]
def dA : DS := (dsIf (dAnd (dTru (dBin eqP (dHx 0 2) (dC (.int 0)))) (dTru (dBin ltP (dHx 0 1) (dCall (un lenP) (dCons (dHx 0 0) dNil))))) (dsSeq (dsSet .val 3 (dBin ixP (dHx 0 0) (dHx 0 1)))
    (dsSeq (dsH 0 1 (dBin addP (dHx 0 1) (dC (.int 1))))
    (dsSeq (dsH 0 3 (dBin modP (dCall (un intP) (dCons (dBin addP (dBin addP (dBin mulP (dHx 0 3) (dC (.int 48271))) (dBin mulP (dBin modP (dV 3) (dC (.int 2147483629))) (dC (.int 69621)))) (dC (.int 23))) dNil)) (dC (.int 2147483629))))
    (dsIf (dTru (dBin geP (dV 3) (dBin powP (dC (.int 10)) (dC (.int 15))))) (dsH 0 2 (dV 3)) dsSkip)))) dsSkip)
theorem draw_a {hs : HS} {m : Int} (h : HOK hs) : ∃ u h', dA [some (.val .hand), some (.val (.int m)), none, none, none] hs = some (.nx [some (.val .hand), some (.val (.int m)), none, u, none] h') ∧ HOK h' := by
  obtain ⟨cells, p, q, s, c, rfl⟩ := h
  by_cases h1 : q = 0
  · by_cases h2 : p < cells.length
    · have et : (dAnd (dTru (dBin eqP (dHx 0 2) (dC (.int 0)))) (dTru (dBin ltP (dHx 0 1) (dCall (un lenP) (dCons (dHx 0 0) dNil))))) [some (.val .hand), some (.val (.int m)), none, none, none] [.lst (cells.map .int), .int (p : Int), .int q, .int s, .int c] = some (true, [.lst (cells.map .int), .int (p : Int), .int q, .int s, .int c]) := by
        refine vAndT (vTru (vBin (vHx rfl rfl) vC (eq_int _ _)) (by rw [decide_eq_true h1]; rfl)) (vTru (vBin (vHx rfl rfl) (vCall (vCons (vHx rfl rfl) vNil) len_lst) (z := .bl true) ?_) rfl)
        show some (PV.bl (decide ((p : Int) < ((cells.map PV.int).length : Int)))) = _
        rw [decide_eq_true (by simp; omega)]
      have ec : ixP (.lst (cells.map .int)) (.int (p : Int)) = some (.int cells[p]) := by
        rw [ix_lst, List.getElem?_map, List.getElem?_eq_getElem h2]
        rfl
      generalize cells[p] = cell at ec
      have e10 := pow_15
      by_cases h3 : 1000000000000000 ≤ cell
      · refine ⟨_, _, xIfT et (xSeq (xSet (vBin (vHx rfl rfl) (vHx rfl rfl) ec)) (xSeq (xH (vBin (vHx rfl rfl) vC rfl) rfl (by simp)) (xSeq (xH (vBin (vCall (vCons (vBin (vBin (vBin (vHx rfl rfl) vC (mul_smallR (by decide +kernel))) (vBin (vBin (vV rfl) vC (mod_pos (by decide))) vC (mul_smallR (by decide +kernel))) rfl) vC rfl) vNil) (int_int _)) vC (mod_pos (by decide))) rfl (by simp)) (xIfT (vTru (vBin (vV rfl) (vBin vC vC e10) (z := .bl true) ?_) rfl) (xH (vV rfl) rfl (by simp)))))), cells, p + 1, _, _, _, rfl⟩
        show some (PV.bl (decide ((1000000000000000 : Int) ≤ cell))) = _
        rw [decide_eq_true h3]
      · refine ⟨_, _, xIfT et (xSeq (xSet (vBin (vHx rfl rfl) (vHx rfl rfl) ec)) (xSeq (xH (vBin (vHx rfl rfl) vC rfl) rfl (by simp)) (xSeq (xH (vBin (vCall (vCons (vBin (vBin (vBin (vHx rfl rfl) vC (mul_smallR (by decide +kernel))) (vBin (vBin (vV rfl) vC (mod_pos (by decide))) vC (mul_smallR (by decide +kernel))) rfl) vC rfl) vNil) (int_int _)) vC (mod_pos (by decide))) rfl (by simp)) (xIfF (vTru (vBin (vV rfl) (vBin vC vC e10) (z := .bl false) ?_) rfl) xSkip)))), cells, p + 1, _, _, _, rfl⟩
        show some (PV.bl (decide ((1000000000000000 : Int) ≤ cell))) = _
        rw [decide_eq_false h3]
    · refine ⟨none, _, xIfF (vAndT (vTru (vBin (vHx rfl rfl) vC (eq_int _ _)) (by rw [decide_eq_true h1]; rfl)) (vTru (vBin (vHx rfl rfl) (vCall (vCons (vHx rfl rfl) vNil) len_lst) (z := .bl false) ?_) rfl)) xSkip, cells, p, q, s, c, rfl⟩
      show some (PV.bl (decide ((p : Int) < ((cells.map PV.int).length : Int)))) = _
      rw [decide_eq_false (by simp; omega)]
  · exact ⟨none, _, xIfF (vAndF (vTru (vBin (vHx rfl rfl) vC (eq_int _ _)) (by rw [decide_eq_false h1]; rfl))) xSkip, cells, p, q, s, c, rfl⟩
theorem draw_x {hs : HS} {m : Int} (h : HOK hs) (hm : 0 < m) (hm2 : m < 2 ^ 64) : ∃ (x : Int) (h' : HS), d__law_draw [.hand, .int m] hs = some (.int (x % m), h') ∧ HOK h' := by
  obtain ⟨u, h1, e1, cells, p, q, s, c, rfl⟩ := draw_a (m := m) h
  by_cases h2 : 0 < q
  · refine ⟨q, _, dRet (xSeq e1 (xSeqR (xIfT (vTru (vBin (vHx rfl rfl) vC (z := .bl true) ?_) rfl) (xSeq (xSet (vBin (vCall (vCons (vHx rfl rfl) vNil) (int_int _)) (vV rfl) (mod_pos hm))) (xSeq (xH (vBin (vHx rfl rfl) (vV rfl) (div_pos hm hm2)) rfl (by simp)) (xRet (vV rfl))))))), cells, p, _, _, _, rfl⟩
    show some (PV.bl (decide ((0 : Int) < q))) = _
    rw [decide_eq_true h2]
  · have ef : (dsIf (dTru (dBin gtP (dHx 0 2) (dC (.int 0)))) (dsSeq (dsSet .val 4 (dBin modP (dCall (un intP) (dCons (dHx 0 2) dNil)) (dV 1)))
        (dsSeq (dsH 0 2 (dBin fdivP (dHx 0 2) (dV 1)))
        (dsRet (dV 4)))) dsSkip) [some (.val .hand), some (.val (.int m)), none, u, none] [.lst (cells.map .int), .int (p : Int), .int q, .int s, .int c] = some (.nx [some (.val .hand), some (.val (.int m)), none, u, none] [.lst (cells.map .int), .int (p : Int), .int q, .int s, .int c]) := by
      refine xIfF (vTru (vBin (vHx rfl rfl) vC (z := .bl false) ?_) rfl) xSkip
      show some (PV.bl (decide ((0 : Int) < q))) = _
      rw [decide_eq_false h2]
    have sm : ∀ x : Int, smallI (x % 2147483399) = true := fun x => by
      have a1 := Int.emod_nonneg x (show (2147483399 : Int) ≠ 0 by decide)
      have a2 := Int.emod_lt_of_pos x (show (0 : Int) < 2147483399 by decide)
      unfold smallI
      rw [decide_eq_true]
      exact ⟨by omega, by omega⟩
    refine ⟨_, _, dRet (xSeq e1 (xSeq ef (xSeq (xH (vBin (vHx rfl rfl) vC rfl) rfl (by simp)) (xSeq (xSet (vBin (vCall (vCons (vBin (vCall (vCons (vBin (vHx rfl rfl) (vBin vC (vHx rfl rfl) (mul_small (by decide +kernel))) rfl) vNil) (int_int _)) vC (mul_smallR (by decide +kernel))) vNil) (int_int _)) vC (mod_pos (by decide))))
      (xSeq (xSet (vBin (vCall (vCons (vBin (vV rfl) (vBin (vBin (vV rfl) vC (div_pos (by decide) (by decide))) vC rfl) (mul_small (sm _))) vNil) (int_int _)) vC (mod_pos (by decide)))) (xRet (vBin (vCall (vCons (vBin (vV rfl) vC (div_pos (by decide) (by decide))) vNil) (int_int _)) (vV rfl) (mod_pos hm)))))))), cells, p, _, _, _, rfl⟩
theorem draw_eq {hs : HS} {m : Int} (h : HOK hs) (hm : 0 < m) (hm2 : m < 2 ^ 64) : ∃ (r : Nat) (h' : HS), d__law_draw [.hand, .int m] hs = some (.int (r : Int), h') ∧ (r : Int) < m ∧ HOK h' := by
  obtain ⟨x, h', e, ho⟩ := draw_x h hm hm2
  have e2 : ((x % m).toNat : Int) = x % m := Int.toNat_of_nonneg (Int.emod_nonneg _ (by omega))
  refine ⟨(x % m).toNat, h', ?_, ?_, ho⟩
  · rw [e2]; exact e
  · rw [e2]; exact Int.emod_lt_of_pos _ hm
theorem any_eq {hs : HS} {xs : List PV} (h : HOK hs) (h0 : xs ≠ []) (hl : xs.length ≤ 100000) : ∃ x h', d__law_any [.hand, .lst xs] hs = some (x, h') ∧ x ∈ xs ∧ HOK h' := by
  have hp : 0 < xs.length := by
    cases xs with
    | nil => exact absurd rfl h0
    | cons a r => simp
  obtain ⟨r, h', e, hr, ho⟩ := draw_eq (m := (xs.length : Int)) h (by omega) (by omega)
  have hr' : r < xs.length := by omega
  exact ⟨xs[r], h', dRet (xRet (vBin (vV rfl) (vFn (vCons (vV rfl) (vCons (vCall (vCons (vV rfl) vNil) len_lst) vNil)) e) (by rw [ix_lst, List.getElem?_eq_getElem hr']))), List.getElem_mem _, ho⟩
theorem hand_eq (ns : List Int) (hl : ns.length ≤ 63) (hs : HS) : ∃ xs, d__law_hand [.scr ns] hs = some (.lst xs, hs) ∧ HOK xs := by
  let f : Int → PV := fun z => .int ((if z < 0 then -z else z) % 1000000000000000000000000000000000000)
  have e10 := pow_36
  have key : lcGo (dgN 2) dYes (dBin modP (dCall (un absP) (dCons (dCall (un intP) (dCons (dV 2) dNil)) dNil)) (dBin powP (dC (.int 10)) (dC (.int 36)))) (wipeR [some (.val (.scr ns)), none, none] [2]) ((cutP ns none (some 60)).map .int) hs = some ((cutP ns none (some 60)).map f, hs) :=
    lc_all PV.int f _ (fun z m => ⟨_, rfl, rfl, vBin (vCall (vCons (vCall (vCons (vV rfl) vNil) (int_int _)) vNil) rfl) (vBin vC vC e10) (mod_pos (by decide))⟩)
  have hcl : (cutP ns none (some 60)).length ≤ 63 := by
    rw [show (some (60 : Int)) = some ((60 : Nat) : Int) from rfl, cut_to, List.length_take]
    omega
  have e2 : slP (.scr ns) none (some 60) = some (.lst ((cutP ns none (some 60)).map .int)) := by unfold slP; rfl
  generalize cutP ns none (some 60) = cs at key hcl e2
  refine ⟨_, dRet (xSeq (xSet (vLc (vIt (vSl (vV rfl) vNo (vSo vC) e2) rfl) (by rw [szl]; simp; omega) key)) (xRet (vLst (vCons (vV rfl) (vCons vC (vCons vC (vCons (vBin (vBin vC (vBin vC (vCall (vCons (vV rfl) vNil) len_lst) (mul_small (by decide +kernel))) rfl) (vBin vC vC (mul_small (by decide +kernel))) rfl) (vCons vC vNil))))) (by rw [szl]; simp)))), cs.map (fun z => (if z < 0 then -z else z) % 1000000000000000000000000000000000000), 0, 0, _, 0, by rw [List.map_map]; rfl⟩
end K14

set_option Elab.async false
set_option linter.all false
set_option maxRecDepth 100000
set_option maxHeartbeats 1000000
/-! k14, plain part j: one word is right. -/
namespace K14
open PL PySem PySem.Spec PyProof.Rows L2
structure Good (w : List Nat) : Prop where
  wd : Wd w
  st : stG (cmpR w) w.length = stG (cmpL w) w.length
  po : polT (trF (covW w) (w.length - 1) (w.length - 1) (w.length - 1)) (w.length - 1) = groT w
  sm : ∀ v ∈ groT w, smallI v = true ∧ v.natAbs < 1000
theorem okI : ∀ (l : List Int) (n : Nat), okNs n (l.map PV.int) = true
  | [], n => by simp [okNs]
  | a :: l, n => by simp [okNs, okN, okI l n]
theorem shI : ∀ (l : List Int), (∀ v ∈ l, v.natAbs.log2 < 1920) → shwL (l.map PV.int) = true
  | [], _ => by simp [shwL]
  | a :: l, h => by
    simp only [List.map_cons, shwL, shwP, Bool.and_eq_true, decide_eq_true_eq]
    exact ⟨h a (List.mem_cons_self ..), shI l (fun v m => h v (List.mem_cons_of_mem _ m))⟩
theorem szI : ∀ (l : List Int), szL (l.map PV.int) = 604 * l.length
  | [] => rfl
  | a :: l => by simp only [List.map_cons, szL, szP, szI l, List.length_cons]; omega
theorem en_map (l : List Nat) : l.map en = (l.map fun (k : Nat) => (k : Int)).map PV.int := by rw [List.map_map]; rfl
theorem small_log {v : Int} (h : v.natAbs < 1000) : v.natAbs.log2 < 1920 := by
  by_cases q : v.natAbs = 0
  · rw [q]; decide
  · rw [Nat.log2_lt q]
    exact Nat.lt_of_lt_of_le h (by decide +kernel)
theorem shN (l : List Nat) (h : ∀ k ∈ l, k < 1000) : shwL (l.map en) = true := by
  rw [en_map]
  exact shI _ fun v hv => by
    obtain ⟨k, hk, rfl⟩ := List.mem_map.mp hv
    exact small_log (by have := h k hk; omega)
theorem szN (l : List Nat) : szL (l.map en) = 604 * l.length := by rw [en_map, szI, List.length_map]
theorem okCv : ∀ (C : List (List Nat)) (n : Nat), okNs (n + 1) (C.map fun lot => PV.tup (lot.map en)) = true
  | [], n => by simp [okNs]
  | lot :: C, n => by
    simp only [List.map_cons, okNs, okN, Bool.and_eq_true]
    exact ⟨oks_int lot n, okCv C n⟩
theorem shC : ∀ (C : List (List Nat)), (∀ lot ∈ C, ∀ k ∈ lot, k < 1000) → shwL (C.map fun lot => PV.tup (lot.map en)) = true
  | [], _ => by simp [shwL]
  | lot :: C, h => by
    simp only [List.map_cons, shwL, shwP, Bool.and_eq_true]
    exact ⟨shN lot (h lot (List.mem_cons_self ..)), shC C (fun l m => h l (List.mem_cons_of_mem _ m))⟩
theorem szC : ∀ (C : List (List Nat)), (∀ lot ∈ C, lot.length ≤ 16) → szL (C.map fun lot => PV.tup (lot.map en)) ≤ 10000 * C.length
  | [], _ => by simp [szL]
  | lot :: C, h => by
    have h1 := szC C (fun l m => h l (List.mem_cons_of_mem _ m))
    have h2 := h lot (List.mem_cons_self ..)
    have h3 := szN lot
    simp only [List.map_cons, szL, szP, List.length_cons, h3]
    omega
def told (S : List Nat) (C : List (List Nat)) (t u : Int) (g : List Int) : PV := .lst [.tup (S.map en), .tup (C.map fun lot => .tup (lot.map en)), .int t, .int u, .tup (g.map .int)]
theorem told_ok {S : List Nat} {C : List (List Nat)} {t u : Int} {g : List Int} (hS : ∀ k ∈ S, k < 1000) (hSl : S.length ≤ 16) (hC : ∀ lot ∈ C, ∀ k ∈ lot, k < 1000) (hCl : C.length ≤ 16) (hC2 : ∀ lot ∈ C, lot.length ≤ 16) (ht : t.natAbs.log2 < 1920) (hu : u.natAbs.log2 < 1920)
    (hg : ∀ v ∈ g, v.natAbs < 1000) (hgl : g.length ≤ 16) : ∃ x, reprP (told S C t u g) = some (.str x) := by
  have h1 : okN 60 (told S C t u g) = true := by
    simp only [told, okN, okNs, Bool.and_eq_true, and_true, true_and]
    exact ⟨oks_int S 58, okCv C 57, okI g 58⟩
  have h2 : shwP (told S C t u g) = true := by
    simp only [told, shwP, shwL, Bool.and_eq_true, decide_eq_true_eq, and_true]
    exact ⟨shN S hS, shC C hC, ht, hu, shI g (fun v m => small_log (hg v m))⟩
  have h3 : szP (told S C t u g) ≤ 16777216 := by
    have a1 := szN S
    have a2 := szC C hC2
    have a3 := szI g
    simp only [told, szP, szL, a1, a3]
    omega
  refine ⟨(toD (told S C t u g)).shown.cps.toList, ?_⟩
  unfold reprP
  rw [h1, h2, szl, decide_eq_true h3]
  rfl
theorem law_is_eq {p : PV} (h : ∃ x, reprP p = some (.str x)) (hs : HS) : d__law_is [p, p] hs = some (.bl true, hs) := by
  obtain ⟨x, hx⟩ := h
  refine dRet (xRet (vBin (vCall (vCons (vV rfl) vNil) hx) (vCall (vCons (vV rfl) vNil) hx) ?_))
  show some (PV.bl (x == x)) = _
  rw [beq_self_eq_true]
theorem is_right_eq {w : List Nat} (gd : Good w) {hs : HS} (ho : HOK hs) : ∃ h', d__law_is_right [.hand, .str w] hs = some (.bl true, h') ∧ HOK h' := by
  have wd := gd.wd
  have hi := wd.hi
  have lo := wd.lo
  have hSl := stG_len (cmpR w) w.length
  have hSa := stG_all (cmpR w) w.length
  have hSlt := stG_lt (cmpR w) w.length
  have est : ∀ hs, d__law_stands [.str w] hs = some (.lst ((stG (cmpR w) w.length).map en), hs) := fun hs => by rw [gd.st]; exact stands_law wd.vld (by omega) hs
  have ecov : ∀ hs, d__law_covers [.lst ((stG (cmpR w) w.length).map en)] hs = some (covV (covW w), hs) := fun hs => by
    have := law_covers_eq (S := stG (cmpR w) w.length) (by rw [hSl]; exact hSa) (by omega) (by omega) hs
    rw [hSl] at this
    exact this
  have hC := covW_ok wd
  have hC16 := covW_lot wd
  have hCl := covW_len w
  have e1 := fun hs => stands_of_eq wd hs
  have e2 : ∀ hs, d_covers_of [.str w] hs = some (.tup ((covW w).map fun lot => .tup (lot.map en)), hs) := fun hs => covers_of_eq wd hs
  have epoly : ∀ hs, d__law_poly [covV (covW w)] hs = some (.tup ((groT w).map .int), hs) := fun hs => by
    have q : polT (trL (covW w)) (covW w).length = groT w := by rw [trF_eq, hCl]; exact gd.po
    have := law_poly_eq hC (by omega) (by rw [q]; exact fun v m => (gd.sm v m).1) hs
    rw [q] at this
    exact this
  -- the draws
  obtain ⟨r1, h1, q1, r1l, ho1⟩ := draw_eq (m := 201) ho (by decide) (by decide)
  obtain ⟨x, h2, q2, mx, ho2⟩ := any_eq (xs := [.int 200, .int 0, .int 1, .int (r1 : Int)]) ho1 (by simp) (by simp)
  have hx : ∃ n : Nat, n ≤ 200 ∧ x = en n := by
    simp only [List.mem_cons, List.not_mem_nil, or_false] at mx
    rcases mx with rfl | rfl | rfl | rfl
    · exact ⟨200, by omega, rfl⟩
    · exact ⟨0, by omega, rfl⟩
    · exact ⟨1, by omega, rfl⟩
    · exact ⟨r1, by omega, rfl⟩
  obtain ⟨n, hn, rfl⟩ := hx
  obtain ⟨r2, h3, q3, r2l, ho3⟩ := draw_eq (m := 60) ho2 (by decide) (by decide)
  obtain ⟨y, h4, q4, my, ho4⟩ := any_eq (xs := [.int 1, .int 200, .int (w.length : Int), .int (1 + (r2 : Int))]) ho3 (by simp) (by simp)
  have hy : ∃ m : Nat, 1 ≤ m ∧ m ≤ 200 ∧ y = en m := by
    simp only [List.mem_cons, List.not_mem_nil, or_false] at my
    rcases my with rfl | rfl | rfl | rfl
    · exact ⟨1, by omega, by omega, rfl⟩
    · exact ⟨200, by omega, by omega, rfl⟩
    · exact ⟨w.length, by omega, by omega, rfl⟩
    · exact ⟨1 + r2, by omega, by omega, by simp⟩
  obtain ⟨m, hm1, hm2, rfl⟩ := hy
  have glen : (groT w).length ≤ 16 := by
    unfold groT
    rw [gro_len, List.length_dropLast]
    simp
    omega
  have hrep := told_ok (S := stG (cmpR w) w.length) (C := covW w) (t := (itT (covW w) n (List.replicate (covW w).length 1)).sum) (u := trcT (covW w) m (covW w).length) (g := groT w)
    (fun k hk => by have := hSlt k hk; omega) (by omega) (fun lot hl k hk => by have := hC lot hl k hk; omega) (by omega) hC16 (trails_big hC16 (by omega) n hn) (trace_big hC16 (by omega) m hm2) (fun v mv => (gd.sm v mv).2) glen
  have elaw := law_is_eq hrep h4
  have eqg : eqP (.tup ((groT w).map .int)) (.tup ((groT w).map .int)) = some (.bl true) := by
    have o : okN 60 (.tup ((groT w).map PV.int)) = true := by simp only [okN]; exact okI (groT w) 59
    have v : ∀ l : List Int, veqs (l.map PV.int) (l.map PV.int) = true := fun l => by
      induction l with
      | nil => rfl
      | cons a l ih => simp [veqs, veq, ih]
    unfold eqP
    rw [o]
    simp only [Bool.and_self, if_true, veq, v]
  refine ⟨h4, dRet (xSeq (xSet (vFn (vCons (vV rfl) vNil) (est hs))) (xSeq (xSet (vFn (vCons (vV rfl) vNil) (ecov hs)))
    (xSeq (xSet (vFn (vCons (vV rfl) (vCons (vLst (vCons vC (vCons vC (vCons vC (vCons (vFn (vCons (vV rfl) (vCons vC vNil)) q1) vNil)))) (by rw [szl]; simp)) vNil)) q2))
    (xSeq (xSet (vFn (vCons (vV rfl) (vCons (vLst (vCons vC (vCons vC (vCons (vCall (vCons (vV rfl) vNil) (len_str (by omega))) (vCons (vBin vC (vFn (vCons (vV rfl) (vCons vC vNil)) q3) rfl) vNil)))) (by rw [szl]; simp)) vNil)) q4))
    (xSeq (xSet (vLst (vCons (vFn (vCons (vV rfl) vNil) (e1 h4)) (vCons (vFn (vCons (vV rfl) vNil) (e2 h4)) (vCons (vFn (vCons (vV rfl) (vCons (vV rfl) vNil)) (trails_eq wd n hn h4)) (vCons (vFn (vCons (vV rfl) (vCons (vV rfl) vNil)) (trace_eq wd m hm1 hm2 h4)) (vCons (vFn (vCons (vV rfl) vNil) (growth_eq wd h4)) vNil))))) (by rw [szl]; simp)))
    (xSeq (xSet (vLst (vCons (vCall (vCons (vV rfl) vNil) rfl) (vCons (vCall (vCons (vV rfl) vNil) rfl) (vCons (vFn (vCons (vV rfl) (vCons (vV rfl) vNil)) (law_trails_eq hC (by omega) n (by omega) h4)) (vCons (vFn (vCons (vV rfl) (vCons (vV rfl) vNil)) (law_trace_eq hC (by omega) m (by omega) h4)) (vCons (vFn (vCons (vV rfl) vNil) (law_row_eq wd h4)) vNil))))) (by rw [szl]; simp)))
    (xRet (vTV (vAndT (vbl (vFn (vCons (vV rfl) (vCons (vV rfl) vNil)) elaw)) (vbl (vBin (vFn (vCons (vV rfl) vNil) (epoly h4)) (vFn (vCons (vV rfl) vNil) (law_row_eq wd h4)) eqg)))))))))))
    , ho4⟩
end K14

set_option Elab.async false
set_option linter.all false
set_option maxRecDepth 100000
set_option maxHeartbeats 1000000
/-! k14, plain part k: stars, the law's run. -/
namespace K14
open PL PySem PySem.Spec PyProof.Rows L2
def flp (c : Nat) : Nat := if c = 76 then 82 else if c = 82 then 76 else c
def starT (one other : List Nat) : List Nat := other.flatMap fun c => one.dropLast ++ [if one.dropLast.count 82 % 2 = 1 then flp c else c]
theorem star_eq {x y : List Nat} (hy : vld y) (lx : x.length ≤ 1000) (ly : y.length ≤ 1000) (hs : HS) : d__law_star [.str x, .str y] hs = some (.str (starT x y), hs) := by
  let tn : PV := .dct [(.str [76], .str [82]), (.str [82], .str [76]), (.str [67], .str [67])]
  let P : Nat → Rho → Prop := fun k ρ => ∃ a, ρ = [some (.val (.str x)), some (.val (.str y)), some (.val tn), a, some (.val (.str x.dropLast)), some (.val (.str (starT x (y.take k))))]
  let bd : DS := dsSet .val 5 (dBin addP (dBin addP (dV 5) (dV 4)) (dIf (dTru (dBin eqP (dBin modP (dCall (un intP) (dCons (dMth cntP (dV 4) (dCons (dC (.str [82])) dNil)) dNil)) (dC (.int 2))) (dC (.int 1)))) (dBin dgP (dV 2) (dV 3)) (dV 3)))
  obtain ⟨ρ', e, a, q⟩ := for_ix (tg := dgN 3) (s1 := bd) (hs := hs) P (y.map fun n => PV.str [n]) 0 [some (.val (.str x)), some (.val (.str y)), some (.val tn), none, some (.val (.str x.dropLast)), some (.val (.str []))] ⟨none, rfl⟩ (fun k z ρ m ⟨a, e⟩ => by
    subst e
    rw [List.getElem?_map] at m
    obtain ⟨c, m1, rfl⟩ := Option.map_eq_some_iff.mp m
    have hc := hy c (List.mem_of_getElem? m1)
    have hk : k < y.length := (List.getElem?_eq_some_iff.mp m1).1
    rw [Nat.zero_add]
    have et : y.take (k + 1) = y.take k ++ [c] := by rw [List.take_add_one, m1]; rfl
    have es : starT x (y.take (k + 1)) = (starT x (y.take k) ++ x.dropLast) ++ [if x.dropLast.count 82 % 2 = 1 then flp c else c] := by
      rw [et]
      simp [starT]
    have el : (starT x (y.take k)).length = (x.length - 1 + 1) * k := by
      have : ∀ l : List Nat, (starT x l).length = (x.length - 1 + 1) * l.length := fun l => by
        induction l with
        | nil => rfl
        | cons b l ih =>
          have : starT x (b :: l) = (x.dropLast ++ [if x.dropLast.count 82 % 2 = 1 then flp b else b]) ++ starT x l := by simp [starT]
          rw [this, List.length_append, ih]
          simp only [List.length_append, List.length_dropLast, List.length_cons, List.length_nil]
          rw [Nat.mul_add]
          omega
      rw [this, List.length_take, Nat.min_eq_left (by omega)]
    have el2 : (x.length - 1 + 1) * k ≤ 1001 * 1000 := Nat.mul_le_mul (by omega) (by omega)
    have e7 : modP (.int ((x.dropLast.count 82 : Nat) : Int)) (.int 2) = some (en (x.dropLast.count 82 % 2)) := by
      rw [mod_pos (by decide)]
      rfl
    have e8 : eqP (en (x.dropLast.count 82 % 2)) (.int 1) = some (.bl (decide (x.dropLast.count 82 % 2 = 1))) := by
      rw [PL.eq_int]
      congr 2
      rw [Bool.eq_iff_iff, decide_eq_true_eq, decide_eq_true_eq]
      omega
    have ev : (dIf (dTru (dBin eqP (dBin modP (dCall (un intP) (dCons (dMth cntP (dV 4) (dCons (dC (.str [82])) dNil)) dNil)) (dC (.int 2))) (dC (.int 1)))) (dBin dgP (dV 2) (dV 3)) (dV 3)) [some (.val (.str x)), some (.val (.str y)), some (.val tn), some (.val (.str [c])), some (.val (.str x.dropLast)), some (.val (.str (starT x (y.take k))))] hs = some (.str [if x.dropLast.count 82 % 2 = 1 then flp c else c], hs) := by
      refine vIfB (vTru (vBin (vBin (vCall (vCons (vMth (vV rfl) (vCons vC vNil) rfl) vNil) (int_int _)) vC e7) vC e8) (tru_bl _)) ?_
      by_cases q : x.dropLast.count 82 % 2 = 1
      · rw [decide_eq_true q, if_pos rfl, if_pos q]
        rcases hc with rfl | rfl | rfl <;> rfl
      · rw [decide_eq_false q, if_neg (by decide), if_neg q]
        rfl
    refine ⟨_, _, rfl, xSet (vBin (vBin (vV rfl) (vV rfl) (add_str' (by rw [el]; simp; omega))) ev (add_str' (by rw [List.length_append, el]; simp; omega))), some (.val (.str [c])), ?_⟩
    rw [es]
    rfl)
  subst q
  have ez : (0 + (y.map fun n => PV.str [n]).length) = y.length := by simp
  rw [ez, List.take_length] at e
  exact dRet (xSeq (xPar (vSl (vV rfl) vNo (vSo (vUn vC rfl)) (sl_str_but (by omega))) vC) (xSeq (xSet (by rfl)) (xSeq (xFor (vIt (vV rfl) rfl) e) (xRet (vV rfl)))))
theorem lt_nat (a b : Nat) : ltP (.int (a : Int)) (.int (b : Int)) = some (.bl (decide (a < b))) := by
  have e : decide ((a : Int) < (b : Int)) = decide (a < b) := by simp
  rw [← e]
  rfl
theorem le_nat (a b : Nat) : leP (.int (a : Int)) (.int (b : Int)) = some (.bl (decide (a ≤ b))) := by
  have e : decide ((a : Int) ≤ (b : Int)) = decide (a ≤ b) := by simp
  rw [← e]
  rfl
def sz5 : List Nat := [2, 3, 4, 5, 8]
structure Words (A : Nat → List (List Nat)) : Prop where
  all : ∀ k ∈ [2, 3, 4, 5, 8, 9, 10], ∀ hs, d__law_all [en k] hs = some (.lst ((A k).map .str), hs)
  ne : ∀ k ∈ [2, 3, 4, 5, 8, 9, 10], A k ≠ [] ∧ (A k).length ≤ 100000
  len : ∀ k ∈ [2, 3, 4, 5, 8, 9, 10], ∀ w ∈ A k, w.length = k ∧ vld w
  g9 : ∀ w ∈ A 9, Good w
  g10 : ∀ w ∈ A 10, Good w
  gst : ∀ k ∈ sz5, ∀ m ∈ sz5, 8 < m * k → m * k ≤ 16 → ∀ x ∈ A k, ∀ y ∈ A m, Good (starT x y)
section
variable {A : Nat → List (List Nat)} (W : Words A)
def dctW (A : Nat → List (List Nat)) : PV := .dct [(en 2, .lst ((A 2).map .str)), (en 3, .lst ((A 3).map .str)), (en 4, .lst ((A 4).map .str)), (en 5, .lst ((A 5).map .str)), (en 8, .lst ((A 8).map .str)), (en 9, .lst ((A 9).map .str)), (en 10, .lst ((A 10).map .str))]
theorem dg_w (k : Nat) (h : k ∈ [2, 3, 4, 5, 8, 9, 10]) : dgP (dctW A) (en k) = some (.lst ((A k).map .str)) := by
  simp only [List.mem_cons, List.not_mem_nil, or_false] at h
  rcases h with rfl | rfl | rfl | rfl | rfl | rfl | rfl <;> rfl
include W
theorem pick_eq (k : Nat) (hk : k ∈ [2, 3, 4, 5, 8, 9, 10]) {hs : HS} (ho : HOK hs) : ∃ w h', d__law_any [.hand, .lst ((A k).map .str)] hs = some (.str w, h') ∧ w ∈ A k ∧ HOK h' := by
  obtain ⟨n1, n2⟩ := W.ne k hk
  obtain ⟨x, h', e, m, ho'⟩ := any_eq (xs := (A k).map .str) ho (by simpa using n1) (by simpa using n2)
  obtain ⟨w, mw, rfl⟩ := List.mem_map.mp m
  exact ⟨w, h', e, mw, ho'⟩
/-- one turn -/
theorem turn_eq {s a b c d u v : Option SV} {hs : HS} (ho : HOK hs) : ∃ b' c' d' h', (dsSeq (dsSet .val 5 (dFn d__law_any (dCons (dV 1) (dCons (dBin dgP (dO 2) (dFn d__law_any (dCons (dV 1) (dCons (dLst (dCons (dC (.int 2)) (dCons (dC (.int 3)) (dCons (dC (.int 4)) (dCons (dC (.int 5)) (dCons (dC (.int 8)) dNil)))))) dNil)))) dNil))))
    (dsSeq (dsSet .val 6 (dFn d__law_any (dCons (dV 1) (dCons (dBin dgP (dO 2) (dFn d__law_any (dCons (dV 1) (dCons (dLc [8] (dIt (dTup (dCons (dC (.int 2)) (dCons (dC (.int 3)) (dCons (dC (.int 4)) (dCons (dC (.int 5)) (dCons (dC (.int 8)) dNil))))))) (dgN 8) (dTru (dChain ltP leP (dC (.int 8)) (dBin mulP (dV 8) (dCall (un lenP) (dCons (dV 5) dNil))) (dC (.int 16)))) (dV 8)) dNil)))) dNil))))
    (dsFor (dgN 7) (dIt (dTup (dCons (dFn d__law_star (dCons (dV 5) (dCons (dV 6) dNil))) (dCons (dFn d__law_any (dCons (dV 1) (dCons (dBin dgP (dO 2) (dC (.int 10))) dNil))) (dCons (dFn d__law_any (dCons (dV 1) (dCons (dBin dgP (dO 2) (dC (.int 9))) dNil))) dNil))))) (dsIf (dNot (dTru (dFn d__law_is_right (dCons (dV 1) (dCons (dV 7) dNil))))) (dsRet (dC (.bl false))) dsSkip))))
    [u, some (.val .hand), some (.own (dctW A)), s, a, b, c, d, v] hs = some (.nx [u, some (.val .hand), some (.own (dctW A)), s, a, b', c', d', v] h') ∧ HOK h' := by
  have hen : ∀ x, x ∈ [PV.int 2, .int 3, .int 4, .int 5, .int 8] → ∃ k, k ∈ sz5 ∧ x = en k := fun x mx => by
    simp only [List.mem_cons, List.not_mem_nil, or_false] at mx
    rcases mx with rfl | rfl | rfl | rfl | rfl
    · exact ⟨2, by decide, rfl⟩
    · exact ⟨3, by decide, rfl⟩
    · exact ⟨4, by decide, rfl⟩
    · exact ⟨5, by decide, rfl⟩
    · exact ⟨8, by decide, rfl⟩
  have sub : ∀ k, k ∈ sz5 → k ∈ [2, 3, 4, 5, 8, 9, 10] := fun k h => by
    simp only [sz5, List.mem_cons, List.not_mem_nil, or_false] at h ⊢
    omega
  obtain ⟨x, h1, e1, m1, ho1⟩ := any_eq (xs := [.int 2, .int 3, .int 4, .int 5, .int 8]) ho (by simp) (by simp)
  obtain ⟨k, hk, rfl⟩ := hen x m1
  obtain ⟨one, h2, e2, m2, ho2⟩ := pick_eq W k (sub k hk) ho1
  obtain ⟨one1, one2⟩ := W.len k (sub k hk) one m2
  let tt : Nat → Bool := fun m => decide (8 < m * k) && decide (m * k ≤ 16)
  have hne : (sz5.filter tt).map en ≠ [] := by
    simp only [sz5, List.mem_cons, List.not_mem_nil, or_false] at hk
    rcases hk with rfl | rfl | rfl | rfl | rfl <;> simp [tt, sz5]
  have key : lcGo (dgN 8) (dTru (dChain ltP leP (dC (.int 8)) (dBin mulP (dV 8) (dCall (un lenP) (dCons (dV 5) dNil))) (dC (.int 16)))) (dV 8) (wipeR [u, some (.val .hand), some (.own (dctW A)), s, a, some (.val (.str one)), c, d, v] [8]) (sz5.map en) h2 = some ((sz5.filter tt).map en, h2) :=
    lc_rel en tt en sz5 (fun m mm => by
      have hm : m ≤ 8 := by
        simp only [sz5, List.mem_cons, List.not_mem_nil, or_false] at mm
        omega
      have hk8 : k ≤ 8 := by
        simp only [sz5, List.mem_cons, List.not_mem_nil, or_false] at hk
        omega
      have emul : mulP (.int (m : Int)) (.int (one.length : Int)) = some (.int ((m * k : Nat) : Int)) := by
        rw [mul_small (by unfold smallI; rw [decide_eq_true]; exact ⟨by omega, by omega⟩), one1]
        rfl
      have elt : ltP (.int 8) (.int ((m * k : Nat) : Int)) = some (.bl (decide (8 < m * k))) := lt_nat 8 (m * k)
      have ele : leP (.int ((m * k : Nat) : Int)) (.int 16) = some (.bl (decide (m * k ≤ 16))) := le_nat (m * k) 16
      refine ⟨_, rfl, ?_, fun _ => vV rfl⟩
      by_cases q : 8 < m * k
      · rw [decide_eq_true q] at elt
        have : tt m = decide (m * k ≤ 16) := by simp [tt, q]
        rw [this]
        exact vTru (vChT vC (vBin (vV rfl) (vCall (vCons (vV rfl) vNil) (len_str (by omega))) emul) elt vC ele) (tru_bl _)
      · rw [decide_eq_false q] at elt
        have : tt m = false := by simp [tt, q]
        rw [this]
        exact vTru (vChF vC (vBin (vV rfl) (vCall (vCons (vV rfl) vNil) (len_str (by omega))) emul) elt) (tru_bl _))
  have hfl : ((sz5.filter tt).map en).length ≤ 100000 := by
    rw [List.length_map]
    exact Nat.le_trans (List.length_filter_le _ _) (by decide)
  obtain ⟨y, h3, e3, m3, ho3⟩ := any_eq ho2 hne hfl
  obtain ⟨m, mm, rfl⟩ := List.mem_map.mp m3
  obtain ⟨mm1, mm2⟩ := List.mem_filter.mp mm
  simp only [tt, Bool.and_eq_true, decide_eq_true_eq] at mm2
  obtain ⟨oth, h4, e4, m4, ho4⟩ := pick_eq W m (sub m mm1) ho3
  obtain ⟨oth1, oth2⟩ := W.len m (sub m mm1) oth m4
  have hst := W.gst k hk m mm1 mm2.1 mm2.2 one m2 oth m4
  have lt8 : ∀ j, j ∈ sz5 → j ≤ 8 := fun j h => by
    simp only [sz5, List.mem_cons, List.not_mem_nil, or_false] at h
    omega
  have estar := star_eq (x := one) (y := oth) oth2 (by have := lt8 k hk; omega) (by have := lt8 m mm1; omega) h4
  obtain ⟨wa, h5, e5, m5, ho5⟩ := pick_eq W 10 (by decide) ho4
  obtain ⟨wb, h6, e6, m6, ho6⟩ := pick_eq W 9 (by decide) ho5
  obtain ⟨h7, e7, ho7⟩ := is_right_eq hst ho6
  obtain ⟨h8, e8, ho8⟩ := is_right_eq (W.g10 wa m5) ho7
  obtain ⟨h9, e9, ho9⟩ := is_right_eq (W.g9 wb m6) ho8
  exact ⟨_, _, _, h9, xSeq (xSet (vFn (vCons (vV rfl) (vCons (vBin (vO rfl) (vFn (vCons (vV rfl) (vCons (vLst (vCons vC (vCons vC (vCons vC (vCons vC (vCons vC vNil))))) (by rw [szl]; simp)) vNil)) e1) (dg_w k (sub k hk))) vNil)) e2))
    (xSeq (xSet (vFn (vCons (vV rfl) (vCons (vBin (vO rfl) (vFn (vCons (vV rfl) (vCons (vLc (vIt (vTup (vCons vC (vCons vC (vCons vC (vCons vC (vCons vC vNil))))) (by rw [szl]; simp)) rfl) (by rw [szl]; simp) key) vNil)) e3) (dg_w m (sub m mm1))) vNil)) e4))
    (xFor (vIt (vTup (vCons (vFn (vCons (vV rfl) (vCons (vV rfl) vNil)) estar) (vCons (vFn (vCons (vV rfl) (vCons (vBin (vO rfl) vC (dg_w 10 (by decide))) vNil)) e5) (vCons (vFn (vCons (vV rfl) (vCons (vBin (vO rfl) vC (dg_w 9 (by decide))) vNil)) e6) vNil))) (by rw [szl]; simp)) rfl)
      (fNx rfl (xIfF (vNotT (vTru (vFn (vCons (vV rfl) (vCons (vV rfl) vNil)) e7) (tru_bl _))) xSkip)
        (fNx rfl (xIfF (vNotT (vTru (vFn (vCons (vV rfl) (vCons (vV rfl) vNil)) e8) (tru_bl _))) xSkip)
          (fNx rfl (xIfF (vNotT (vTru (vFn (vCons (vV rfl) (vCons (vV rfl) vNil)) e9) (tru_bl _))) xSkip) fNil))))), ho9⟩
theorem law_plain (ns : List Int) (hl : ns.length ≤ 63) : ∃ xs h1 h2, b_law1 (some (.val (.scr ns)) :: List.replicate (["script", "hand", "words", "size", "turn", "one", "other", "word", "many"].length - 1) none) [] = some (.nx (some (.val (.scr ns)) :: some (.own (.lst xs)) :: List.replicate (["script", "hand", "words", "size", "turn", "one", "other", "word", "many"].length - 2) none) h1) ∧
      b_law (some (.val (.scr ns)) :: some (.val .hand) :: List.replicate (["script", "hand", "words", "size", "turn", "one", "other", "word", "many"].length - 2) none) xs = some (.ret (.bl true) h2) := by
  obtain ⟨xs, ex, ho⟩ := hand_eq ns hl []
  let P : Unit → Rho → HS → Prop := fun _ ρ hs => (∃ s a b c d, ρ = [some (.val (.scr ns)), some (.val .hand), some (.own (dctW A)), s, a, b, c, d, none]) ∧ HOK hs
  have t0 := fun (s a b c d : Option SV) (hs : HS) (h : HOK hs) => turn_eq W (s := s) (a := a) (b := b) (c := c) (d := d) (u := some (.val (.scr ns))) (v := none) h
  obtain ⟨ρ', h', e, ⟨s, a, b, c, d, rfl⟩, ho'⟩ := for_relH (tg := dgN 4) (s1 := (dsSeq (dsSet .val 5 (dFn d__law_any (dCons (dV 1) (dCons (dBin dgP (dO 2) (dFn d__law_any (dCons (dV 1) (dCons (dLst (dCons (dC (.int 2)) (dCons (dC (.int 3)) (dCons (dC (.int 4)) (dCons (dC (.int 5)) (dCons (dC (.int 8)) dNil)))))) dNil)))) dNil))))
    (dsSeq (dsSet .val 6 (dFn d__law_any (dCons (dV 1) (dCons (dBin dgP (dO 2) (dFn d__law_any (dCons (dV 1) (dCons (dLc [8] (dIt (dTup (dCons (dC (.int 2)) (dCons (dC (.int 3)) (dCons (dC (.int 4)) (dCons (dC (.int 5)) (dCons (dC (.int 8)) dNil))))))) (dgN 8) (dTru (dChain ltP leP (dC (.int 8)) (dBin mulP (dV 8) (dCall (un lenP) (dCons (dV 5) dNil))) (dC (.int 16)))) (dV 8)) dNil)))) dNil))))
    (dsFor (dgN 7) (dIt (dTup (dCons (dFn d__law_star (dCons (dV 5) (dCons (dV 6) dNil))) (dCons (dFn d__law_any (dCons (dV 1) (dCons (dBin dgP (dO 2) (dC (.int 10))) dNil))) (dCons (dFn d__law_any (dCons (dV 1) (dCons (dBin dgP (dO 2) (dC (.int 9))) dNil))) dNil))))) (dsIf (dNot (dTru (dFn d__law_is_right (dCons (dV 1) (dCons (dV 7) dNil))))) (dsRet (dC (.bl false))) dsSkip))))) (fun (i : Nat) => PV.int i) P (fun _ _ => ()) (List.range 3) () [some (.val (.scr ns)), some (.val .hand), some (.own (dctW A)), some (.val (en 10)), none, none, none, none, none] xs ⟨⟨_, _, _, _, _, rfl⟩, ho⟩ (fun _ i ρ hs mi ⟨⟨s, a, b, c, d, e⟩, h⟩ => by
      subst e
      obtain ⟨b', c', d', h2, e2, ho2⟩ := t0 s (some (.val (.int (i : Nat)))) b c d hs h
      exact ⟨_, _, h2, rfl, e2, ⟨_, _, _, _, _, rfl⟩, ho2⟩)
  have wa := fun k (hk : k ∈ [2, 3, 4, 5, 8, 9, 10]) => W.all k hk xs
  refine ⟨xs, [], h', xSet (vFn (vCons (vV rfl) vNil) ex), xSeq (xSet vC) (xSeq (xFor (vIt (vTup (vCons vC (vCons vC (vCons vC (vCons vC (vCons vC (vCons vC (vCons vC vNil))))))) (by rw [szl]; simp)) rfl)
    (fNx rfl (xDp (vFn (vCons (vV rfl) vNil) (wa 2 (by decide))) (vV rfl) rfl rfl) (fNx rfl (xDp (vFn (vCons (vV rfl) vNil) (wa 3 (by decide))) (vV rfl) rfl rfl) (fNx rfl (xDp (vFn (vCons (vV rfl) vNil) (wa 4 (by decide))) (vV rfl) rfl rfl) (fNx rfl (xDp (vFn (vCons (vV rfl) vNil) (wa 5 (by decide))) (vV rfl) rfl rfl)
      (fNx rfl (xDp (vFn (vCons (vV rfl) vNil) (wa 8 (by decide))) (vV rfl) rfl rfl) (fNx rfl (xDp (vFn (vCons (vV rfl) vNil) (wa 9 (by decide))) (vV rfl) rfl rfl) (fNx rfl (xDp (vFn (vCons (vV rfl) vNil) (wa 10 (by decide))) (vV rfl) rfl rfl) fNil))))))))
    (xSeq (xFor (vItA (vCons vC vNil) (rng_nat 3 (by decide))) e) (xRet vC)))⟩
end
end K14

set_option Elab.async false
set_option linter.all false
set_option maxRecDepth 1000000
set_option maxHeartbeats 0
/-! k14, plain part l: all words are good, by looking. -/
namespace K14
open PL PySem PySem.Spec PyProof.Rows L2
def seg : Nat → Nat → Int → List Int → List Int
  | _, _, _, [] => []
  | 0, 0, _, f => f
  | 0, m + 1, v, x :: f => (x + v) :: seg 0 m v f
  | a + 1, m, v, x :: f => x :: seg a m v f
theorem seg_len : ∀ (a m : Nat) (v : Int) (f : List Int), (seg a m v f).length = f.length
  | 0, 0, v, [] => rfl
  | 0, 0, v, x :: f => rfl
  | 0, m + 1, v, [] => rfl
  | 0, m + 1, v, x :: f => by simp [seg, seg_len 0 m v f]
  | a + 1, m, v, [] => rfl
  | a + 1, m, v, x :: f => by simp [seg, seg_len a m v f]
theorem seg_0 : ∀ (a : Nat) (v : Int) (f : List Int), seg a 0 v f = f
  | 0, v, [] => rfl
  | 0, v, x :: f => rfl
  | a + 1, v, [] => rfl
  | a + 1, v, x :: f => by simp [seg, seg_0 a v f]
theorem seg_s : ∀ (a m : Nat) (v : Int) (f : List Int), a < f.length → seg a (m + 1) v f = seg (a + 1) m v (addT v f a)
  | a, m, v, [], h => by simp at h
  | 0, m, v, x :: f, h => rfl
  | a + 1, m, v, x :: f, h => by
    have ih := seg_s a m v f (by simpa using h)
    show x :: seg a (m + 1) v f = x :: seg (a + 1) m v (addT v f a)
    rw [ih]
theorem seg_eq : ∀ (m a : Nat) (v : Int) (f : List Int), a + m ≤ f.length → (List.range' a m).foldl (addT v) f = seg a m v f
  | 0, a, v, f, h => by rw [seg_0]; rfl
  | m + 1, a, v, f, h => by
    rw [List.range'_succ, List.foldl_cons, seg_eq m (a + 1) v (addT v f a) (by rw [addT_len]; omega), seg_s a m v f (by omega)]
def lotP (S : List Nat) (i : Nat) : Nat × Nat :=
  let a := S.idxOf ((S.getD i 0 + 1) % S.length)
  let b := S.idxOf ((S.getD (i + 1) 0 + 1) % S.length)
  (min a b, max a b - min a b)
def rngO (p : Nat × Nat) : List Nat := List.range' p.1 p.2
def stepP (P : List (Nat × Nat)) (r : List Int) : List Int := (P.zip r).foldl (fun f p => seg p.1.1 p.1.2 p.2 f) (List.replicate P.length 0)
theorem foldP : ∀ (l : List ((Nat × Nat) × Int)) (f : List Int), (∀ p ∈ l, p.1.1 + p.1.2 ≤ f.length) → (l.map fun p => (rngO p.1, p.2)).foldl lotT f = l.foldl (fun f p => seg p.1.1 p.1.2 p.2 f) f
  | [], f, _ => rfl
  | p :: l, f, h => by
    have e : lotT f (rngO p.1, p.2) = seg p.1.1 p.1.2 p.2 f := seg_eq p.1.2 p.1.1 p.2 f (h p (List.mem_cons_self ..))
    rw [List.map_cons, List.foldl_cons, List.foldl_cons, e]
    exact foldP l _ (fun q m => by rw [seg_len]; exact h q (List.mem_cons_of_mem _ m))
theorem stepP_eq (P : List (Nat × Nat)) (h : ∀ p ∈ P, p.1 + p.2 ≤ P.length) (r : List Int) : stepT (P.map rngO) r = stepP P r := by
  unfold stepT stepP
  rw [List.length_map]
  have e : (P.map rngO).zip r = (P.zip r).map fun p => (rngO p.1, p.2) := by
    have := List.zip_map_left (f := rngO) (l₁ := P) (l₂ := r)
    rw [this]
    rfl
  rw [e]
  exact foldP _ _ (fun p m => by rw [List.length_replicate]; exact h p.1 (List.of_mem_zip m).1)
def orbP (P : List (Nat × Nat)) (k : Nat) : Nat → List Int → List Int
  | 0, _ => []
  | m + 1, r => let r' := stepP P r; r'.getD k 0 :: orbP P k m r'
def trP (P : List (Nat × Nat)) (n m : Nat) : Nat → List Int
  | 0 => List.replicate m 0
  | k + 1 => List.zipWith (· + ·) (trP P n m k) (orbP P k m (unT n k))
theorem orbP_eq (P : List (Nat × Nat)) (h : ∀ p ∈ P, p.1 + p.2 ≤ P.length) (k : Nat) : ∀ m r, orb (P.map rngO) k m r = orbP P k m r
  | 0, r => rfl
  | m + 1, r => by
    show (stepT (P.map rngO) r).getD k 0 :: orb (P.map rngO) k m (stepT (P.map rngO) r) = (stepP P r).getD k 0 :: orbP P k m (stepP P r)
    rw [stepP_eq P h, orbP_eq P h k m]
theorem trP_eq (P : List (Nat × Nat)) (h : ∀ p ∈ P, p.1 + p.2 ≤ P.length) (n m : Nat) : ∀ k, trF (P.map rngO) n m k = trP P n m k
  | 0 => rfl
  | k + 1 => by rw [trF, trP, trP_eq P h n m k, orbP_eq P h]
def covP (S : List Nat) (k : Nat) : List (Nat × Nat) := (List.range k).map (lotP S)
theorem covP_eq (S : List Nat) (k : Nat) : (covP S k).map rngO = covT S k := by
  unfold covP covT
  rw [List.map_map]
  rfl
def wdB (w : List Nat) : Bool := decide (2 ≤ w.length) && decide (w.length ≤ 16) && (w.getLast? == some 67) && w.dropLast.all (fun c => c == 76 || c == 82) && (shT w).isEmpty
theorem wdB_ok {w : List Nat} (h : wdB w = true) : Wd w := by
  simp only [wdB, Bool.and_eq_true, decide_eq_true_eq, beq_iff_eq, List.all_eq_true, Bool.or_eq_true, List.isEmpty_iff] at h
  obtain ⟨⟨⟨⟨h1, h2⟩, h3⟩, h4⟩, h5⟩ := h
  refine ⟨⟨w.dropLast, ?_, h4⟩, h1, h2, h5⟩
  obtain ⟨hne, hl⟩ := List.getLast?_eq_some_iff.mp h3
  rw [hl]
  simp
def chk2 (S R : List Nat) (P : List (Nat × Nat)) (g : List Int) (n : Nat) : Bool :=
  R == S && P.all (fun p => decide (p.1 + p.2 ≤ n)) && (polT (trP P n n n) n == g) && g.all (fun v => smallI v && decide (v.natAbs < 1000))
def goodB (w : List Nat) : Bool :=
  wdB w && chk2 (stG (cmpL w) w.length) (stG (cmpR w) w.length) (covP (stG (cmpR w) w.length) (w.length - 1)) (groT w) (w.length - 1)
theorem goodB_ok {w : List Nat} (h : goodB w = true) : Good w := by
  simp only [goodB, chk2, Bool.and_eq_true, beq_iff_eq, List.all_eq_true, decide_eq_true_eq] at h
  obtain ⟨h1, ⟨⟨h2, h3⟩, h4⟩, h5⟩ := h
  have hl : (covP (stG (cmpR w) w.length) (w.length - 1)).length = w.length - 1 := by simp [covP]
  refine ⟨wdB_ok h1, h2, ?_, h5⟩
  have e : covW w = (covP (stG (cmpR w) w.length) (w.length - 1)).map rngO := (covP_eq _ _).symm
  rw [e, trP_eq _ (fun p m => by rw [hl]; exact h3 p m)]
  exact h4
theorem all9 : (allT 8).all goodB = true := by decide +kernel
theorem all10 : (allT 9).all goodB = true := by decide +kernel
def starB (k m : Nat) : Bool := (allT k).all fun x => (allT m).all fun y => goodB (starT x y)
theorem st24 : starB 1 4 = true := by decide +kernel
theorem st27 : starB 1 7 = true := by decide +kernel
theorem st22 : starB 2 2 = true := by decide +kernel
theorem st23 : starB 2 3 = true := by decide +kernel
theorem st2_4 : starB 2 4 = true := by decide +kernel
theorem st32 : starB 3 2 = true := by decide +kernel
theorem st33 : starB 3 3 = true := by decide +kernel
theorem st41 : starB 4 1 = true := by decide +kernel
theorem st42 : starB 4 2 = true := by decide +kernel
theorem st71 : starB 7 1 = true := by decide +kernel
end K14

set_option Elab.async false
set_option linter.all false
set_option maxRecDepth 1000000
set_option maxHeartbeats 0
/-! k14, plain part m: the law's plain half, whole. -/
namespace K14
open PL PySem PySem.Spec PyProof.Rows L2
theorem allT_len (n : Nat) (h : n ≤ 12) : (allT n).length ≤ 100000 := by
  unfold allT ordT
  rw [ordT_len, fouT, List.length_map]
  have h1 := List.length_filter_le (fun r => (shT (r ++ [67])).isEmpty) (rowT n)
  rw [rowT_len] at h1
  have h2 : 2 ^ n ≤ 2 ^ 12 := Nat.pow_le_pow_right (by decide) h
  simp
  omega
theorem allT_mem {n : Nat} {w : List Nat} (h : w ∈ allT n) : w.length = n + 1 ∧ vld w := by
  rcases ordT_mem _ _ w h with h | h
  · exact nomatch h
  · exact ⟨(fouT_mem h).2, (fouT_mem h).1⟩
theorem allT_ne : ((allT 1).isEmpty || (allT 2).isEmpty || (allT 3).isEmpty || (allT 4).isEmpty || (allT 7).isEmpty || (allT 8).isEmpty || (allT 9).isEmpty) = false := by decide +kernel
theorem starB_ok {k m : Nat} (h : starB k m = true) : ∀ x ∈ allT k, ∀ y ∈ allT m, Good (starT x y) := fun x hx y hy => by
  simp only [starB, List.all_eq_true] at h
  exact goodB_ok (h x hx y hy)
theorem words : Words fun k => allT (k - 1) := by
  have hk : ∀ k, k ∈ [2, 3, 4, 5, 8, 9, 10] → k - 1 + 1 = k ∧ k - 1 ≤ 12 := fun k h => by
    simp only [List.mem_cons, List.not_mem_nil, or_false] at h
    omega
  have ne := allT_ne
  simp only [Bool.or_eq_false_iff, List.isEmpty_eq_false_iff] at ne
  obtain ⟨⟨⟨⟨⟨⟨n1, n2⟩, n3⟩, n4⟩, n7⟩, n8⟩, n9⟩ := ne
  refine ⟨fun k h hs => ?_, fun k h => ⟨?_, allT_len _ (hk k h).2⟩, fun k h w m => ?_, fun w m => goodB_ok (List.all_eq_true.mp all9 w m), fun w m => goodB_ok (List.all_eq_true.mp all10 w m), ?_⟩
  · have := all_eq (k - 1) (hk k h).2 hs
    rw [(hk k h).1] at this
    exact this
  · simp only [List.mem_cons, List.not_mem_nil, or_false] at h
    rcases h with rfl | rfl | rfl | rfl | rfl | rfl | rfl <;> assumption
  · obtain ⟨h1, h2⟩ := allT_mem m
    exact ⟨by rw [h1]; exact (hk k h).1, h2⟩
  · intro k h m hm l1 l2
    simp only [sz5, List.mem_cons, List.not_mem_nil, or_false] at h hm
    rcases h with rfl | rfl | rfl | rfl | rfl <;> rcases hm with rfl | rfl | rfl | rfl | rfl
    · exact absurd l1 (by decide)
    · exact absurd l1 (by decide)
    · exact absurd l1 (by decide)
    · exact starB_ok st24
    · exact starB_ok st27
    · exact absurd l1 (by decide)
    · exact starB_ok st22
    · exact starB_ok st23
    · exact starB_ok st2_4
    · exact absurd l2 (by decide)
    · exact absurd l1 (by decide)
    · exact starB_ok st32
    · exact starB_ok st33
    · exact absurd l2 (by decide)
    · exact absurd l2 (by decide)
    · exact starB_ok st41
    · exact starB_ok st42
    · exact absurd l2 (by decide)
    · exact absurd l2 (by decide)
    · exact absurd l2 (by decide)
    · exact starB_ok st71
    · exact absurd l2 (by decide)
    · exact absurd l2 (by decide)
    · exact absurd l2 (by decide)
    · exact absurd l2 (by decide)
end K14

set_option Elab.async false
set_option linter.all false
set_option maxRecDepth 1000000
set_option maxHeartbeats 0
/-! the head, the end (printed by gen.py) -/
namespace K14
open PySem PySem.Spec PyProof.Rows L2 PL
def D_is_integer : He.DefD := ⟨("is_integer", none), "is_integer", "is_integer", defArgs (top 6), defBody (top 6), defScope (top 6), [], []⟩
def D_is_within : He.DefD := ⟨("is_within", none), "is_within", "is_within", defArgs (top 7), defBody (top 7), defScope (top 7), [], []⟩
def D_is_turn_word : He.DefD := ⟨("is_turn_word", none), "is_turn_word", "is_turn_word", defArgs (top 13), defBody (top 13), defScope (top 13), [], []⟩
def D_check_turn_word : He.DefD := ⟨("check_turn_word", none), "check_turn_word", "check_turn_word", defArgs (top 14), defBody (top 14), defScope (top 14), [], []⟩
def D_rank_of : He.DefD := ⟨("rank_of", none), "rank_of", "rank_of", defArgs (top 15), defBody (top 15), defScope (top 15), [], []⟩
def D_is_raw_less : He.DefD := ⟨("is_raw_less", none), "is_raw_less", "is_raw_less", defArgs (top 16), defBody (top 16), defScope (top 16), [], []⟩
def D_not_less_shifts : He.DefD := ⟨("not_less_shifts", none), "not_less_shifts", "not_less_shifts", defArgs (top 17), defBody (top 17), defScope (top 17), [], []⟩
def D_check_greatest : He.DefD := ⟨("check_greatest", none), "check_greatest", "check_greatest", defArgs (top 18), defBody (top 18), defScope (top 18), [], []⟩
def D_check_long : He.DefD := ⟨("check_long", none), "check_long", "check_long", defArgs (top 19), defBody (top 19), defScope (top 19), [], []⟩
def D_told_on : He.DefD := ⟨("told_on", none), "told_on", "told_on", defArgs (top 22), defBody (top 22), defScope (top 22), [], []⟩
def D_raw_stands : He.DefD := ⟨("raw_stands", none), "raw_stands", "raw_stands", defArgs (top 23), defBody (top 23), defScope (top 23), [], []⟩
def D_stands_of : He.DefD := ⟨("stands_of", none), "stands_of", "stands_of", defArgs (top 24), defBody (top 24), defScope (top 24), [], []⟩
def D_raw_covers : He.DefD := ⟨("raw_covers", none), "raw_covers", "raw_covers", defArgs (top 25), defBody (top 25), defScope (top 25), [], []⟩
def D_covers_of : He.DefD := ⟨("covers_of", none), "covers_of", "covers_of", defArgs (top 26), defBody (top 26), defScope (top 26), [], []⟩
def D_check_steps : He.DefD := ⟨("check_steps", none), "check_steps", "check_steps", defArgs (top 27), defBody (top 27), defScope (top 27), [], []⟩
def D_led_on : He.DefD := ⟨("led_on", none), "led_on", "led_on", defArgs (top 28), defBody (top 28), defScope (top 28), [], []⟩
def D_trails_many : He.DefD := ⟨("trails_many", none), "trails_many", "trails_many", defArgs (top 29), defBody (top 29), defScope (top 29), [], []⟩
def D_trace_by : He.DefD := ⟨("trace_by", none), "trace_by", "trace_by", defArgs (top 30), defBody (top 30), defScope (top 30), [], []⟩
def D_growth_row : He.DefD := ⟨("growth_row", none), "growth_row", "growth_row", defArgs (top 31), defBody (top 31), defScope (top 31), [], []⟩
def D__law_hand : He.DefD := ⟨("_law_hand", none), "_law_hand", "_law_hand", defArgs (top 33), defBody (top 33), defScope (top 33), [], []⟩
def D__law_draw : He.DefD := ⟨("_law_draw", none), "_law_draw", "_law_draw", defArgs (top 34), defBody (top 34), defScope (top 34), [], []⟩
def D__law_any : He.DefD := ⟨("_law_any", none), "_law_any", "_law_any", defArgs (top 35), defBody (top 35), defScope (top 35), [], []⟩
def D__law_is : He.DefD := ⟨("_law_is", none), "_law_is", "_law_is", defArgs (top 36), defBody (top 36), defScope (top 36), [], []⟩
def D__law_low : He.DefD := ⟨("_law_low", none), "_law_low", "_law_low", defArgs (top 37), defBody (top 37), defScope (top 37), [], []⟩
def D__law_less : He.DefD := ⟨("_law_less", none), "_law_less", "_law_less", defArgs (top 38), defBody (top 38), defScope (top 38), [], []⟩
def D__law_is_less : He.DefD := ⟨("_law_is_less", none), "_law_is_less", "_law_is_less", defArgs (top 39), defBody (top 39), defScope (top 39), [], []⟩
def D__law_shifts : He.DefD := ⟨("_law_shifts", none), "_law_shifts", "_law_shifts", defArgs (top 40), defBody (top 40), defScope (top 40), [], []⟩
def D__law_longer : He.DefD := ⟨("_law_longer", none), "_law_longer", "_law_longer", defArgs (top 42), defBody (top 42), defScope (top 42), [], []⟩
def D__law_all : He.DefD := ⟨("_law_all", none), "_law_all", "_law_all", defArgs (top 41), defBody (top 41), defScope (top 41), [], []⟩
def D__law_star : He.DefD := ⟨("_law_star", none), "_law_star", "_law_star", defArgs (top 43), defBody (top 43), defScope (top 43), [], []⟩
def D__law_stands : He.DefD := ⟨("_law_stands", none), "_law_stands", "_law_stands", defArgs (top 44), defBody (top 44), defScope (top 44), [], []⟩
def D__law_covers : He.DefD := ⟨("_law_covers", none), "_law_covers", "_law_covers", defArgs (top 45), defBody (top 45), defScope (top 45), [], []⟩
def D__law_stepped : He.DefD := ⟨("_law_stepped", none), "_law_stepped", "_law_stepped", defArgs (top 46), defBody (top 46), defScope (top 46), [], []⟩
def D__law_trails : He.DefD := ⟨("_law_trails", none), "_law_trails", "_law_trails", defArgs (top 47), defBody (top 47), defScope (top 47), [], []⟩
def D__law_trace : He.DefD := ⟨("_law_trace", none), "_law_trace", "_law_trace", defArgs (top 48), defBody (top 48), defScope (top 48), [], []⟩
def D__law_poly : He.DefD := ⟨("_law_poly", none), "_law_poly", "_law_poly", defArgs (top 49), defBody (top 49), defScope (top 49), [], []⟩
def D__law_row : He.DefD := ⟨("_law_row", none), "_law_row", "_law_row", defArgs (top 50), defBody (top 50), defScope (top 50), [], []⟩
def D__law_is_right : He.DefD := ⟨("_law_is_right", none), "_law_is_right", "_law_is_right", defArgs (top 51), defBody (top 51), defScope (top 51), [], []⟩
def D_law : He.DefD := ⟨("law", none), "law", "law", defArgs (top 52), defBody (top 52), defScope (top 52), [], []⟩
def fnL0 : List He.DefD := [D_is_integer, D_is_within, D_is_turn_word, D_check_turn_word, D_rank_of, D_is_raw_less, D_not_less_shifts, D_check_greatest, D_check_long, D_told_on, D_raw_stands, D_stands_of, D_raw_covers, D_covers_of, D_check_steps, D_led_on, D_trails_many, D_trace_by, D_growth_row, D__law_hand, D__law_draw, D__law_any, D__law_is, D__law_low, D__law_less, D__law_is_less, D__law_shifts, D__law_longer, D__law_all, D__law_star]
def fnL1 : List He.DefD := [D__law_stands, D__law_covers, D__law_stepped, D__law_trails, D__law_trace, D__law_poly, D__law_row, D__law_is_right, D_law]
def fnL : List He.DefD := fnL0 ++ fnL1
def faL0 : List He.Fa := [.glo "is_integer", .glo "is_within", .glo "is_turn_word", .glo "check_turn_word", .glo "rank_of", .glo "is_raw_less", .glo "not_less_shifts", .glo "check_greatest", .glo "check_long", .glo "told_on", .glo "raw_stands", .glo "stands_of", .glo "raw_covers", .glo "covers_of", .glo "check_steps", .glo "led_on", .glo "trails_many", .glo "trace_by", .glo "growth_row", .glo "_law_hand", .glo "_law_draw", .glo "_law_any", .glo "_law_is", .glo "_law_low", .glo "_law_less", .glo "_law_is_less", .glo "_law_shifts", .glo "_law_longer", .glo "_law_all", .glo "_law_star"]
def faL1 : List He.Fa := [.glo "_law_stands", .glo "_law_covers", .glo "_law_stepped", .glo "_law_trails", .glo "_law_trace", .glo "_law_poly", .glo "_law_row", .glo "_law_is_right", .glo "law", .free "abs", .free "all", .free "bool", .free "enumerate", .free "int", .free "isinstance", .free "len", .free "min", .free "range", .free "repr", .free "sorted", .free "str", .free "sum", .free "tuple", .free "zip", .str "LEFT" "L", .int "MOST_SIGNS" 16, .int "MOST_TRAILS" 200, .str "RIGHT" "R", .str "TURN" "C"]
def faL : List He.Fa := faL0 ++ faL1
def loL0 : List Str := ["RayError", "NoNumber", "NoTurnWord", "NotGreatest", "is_integer", "is_within", "LEFT", "TURN", "RIGHT", "MOST_SIGNS", "is_turn_word", "check_turn_word", "rank_of", "is_raw_less", "not_less_shifts", "check_greatest", "check_long", "MOST_TRAILS", "told_on", "raw_stands", "stands_of", "raw_covers", "covers_of", "check_steps", "led_on", "trails_many", "trace_by", "growth_row", "_law_hand", "_law_draw"]
def loL1 : List Str := ["_law_any", "_law_is", "_law_low", "_law_less", "_law_is_less", "_law_shifts", "_law_all", "_law_longer", "_law_star", "_law_stands", "_law_covers", "_law_stepped", "_law_trails", "_law_trace", "_law_poly", "_law_row", "_law_is_right"]
def loL : List Str := loL0 ++ loL1
abbrev R : PySem.W.OpenRow := PySem.W.OpenLaw.row PySem.Challenge.rw_landtogether_k14_whole_covers_of_words_t
abbrev hk : PySem.W.Hook := He.hookD 4 faL fnL
def ob (s : PySem.W.SharedT) : He.AlD := He.obsDG 4 faL fnL (HandSHeadRun.getT s)
theorem ob_eq (s : PySem.W.SharedT) : ob s = hk.obs s.abs := He.obsDG_eq (HandSHeadRun.getT_eq s)
theorem run (w : World) : HandSHeadRun.RunEq R (PySem.W.view R.prog [52]) hk ob 4000 loL w := by
  intro os
  kernel_rfl
theorem facts {P : Program} {w : World} {K : PySem.W.Frag} {h : Heap} {mg : Str → Option Value} {f : Addr} (X : K.In h) (G : h.Ns mainGlobals mg) (hfa : mg ("law" : Str) = some (.ref f)) (c : He.SaysD faL fnL K)
    (law : ∀ ns : List Int, ns.length ≤ 63 → ∃ xs h1 h2, b_law1 (some (.val (.scr ns)) :: List.replicate (["script", "hand", "words", "size", "turn", "one", "other", "word", "many"].length - 1) none) [] = some (.nx (some (.val (.scr ns)) :: some (.own (.lst xs)) :: List.replicate (["script", "hand", "words", "size", "turn", "one", "other", "word", "many"].length - 2) none) h1) ∧
      b_law (some (.val (.scr ns)) :: some (.val .hand) :: List.replicate (["script", "hand", "words", "size", "turn", "one", "other", "word", "many"].length - 2) none) xs = some (.ret (.bl true) h2)) :
    ∃ fd : FuncData, (∀ (s : Shared) (v : Value), BindsTo s fd ⟨[v], []⟩ [("script", v)]) ∧ ∀ base : Heap, K.In base → base.Ns mainGlobals mg → FnG P w K mg base CX0 9 f fd ["script"] (spLaw K 63) := by
  have ff : Facts mg := ⟨He.free_ok X G (c.fact 39 (f := .free "abs") rfl), He.free_ok X G (c.fact 40 (f := .free "all") rfl), He.free_ok X G (c.fact 41 (f := .free "bool") rfl), He.free_ok X G (c.fact 42 (f := .free "enumerate") rfl), He.free_ok X G (c.fact 43 (f := .free "int") rfl), He.free_ok X G (c.fact 44 (f := .free "isinstance") rfl), He.free_ok X G (c.fact 45 (f := .free "len") rfl), He.free_ok X G (c.fact 46 (f := .free "min") rfl), He.free_ok X G (c.fact 47 (f := .free "range") rfl), He.free_ok X G (c.fact 48 (f := .free "repr") rfl), He.free_ok X G (c.fact 49 (f := .free "sorted") rfl), He.free_ok X G (c.fact 50 (f := .free "str") rfl), He.free_ok X G (c.fact 51 (f := .free "sum") rfl), He.free_ok X G (c.fact 52 (f := .free "tuple") rfl), He.free_ok X G (c.fact 53 (f := .free "zip") rfl), He.str_ok X G (c.fact 54 (f := .str "LEFT" "L") rfl), He.int_ok X G (c.fact 55 (f := .int "MOST_SIGNS" 16) rfl), He.int_ok X G (c.fact 56 (f := .int "MOST_TRAILS" 200) rfl), He.str_ok X G (c.fact 57 (f := .str "RIGHT" "R") rfl), He.str_ok X G (c.fact 58 (f := .str "TURN" "C") rfl)⟩
  obtain ⟨fd0, F0⟩ := c.def_ 0 (d := D_is_integer) rfl
  obtain ⟨fd1, F1⟩ := c.def_ 1 (d := D_is_within) rfl
  obtain ⟨fd2, F2⟩ := c.def_ 2 (d := D_is_turn_word) rfl
  obtain ⟨fd3, F3⟩ := c.def_ 3 (d := D_check_turn_word) rfl
  obtain ⟨fd4, F4⟩ := c.def_ 4 (d := D_rank_of) rfl
  obtain ⟨fd5, F5⟩ := c.def_ 5 (d := D_is_raw_less) rfl
  obtain ⟨fd6, F6⟩ := c.def_ 6 (d := D_not_less_shifts) rfl
  obtain ⟨fd7, F7⟩ := c.def_ 7 (d := D_check_greatest) rfl
  obtain ⟨fd8, F8⟩ := c.def_ 8 (d := D_check_long) rfl
  obtain ⟨fd9, F9⟩ := c.def_ 9 (d := D_told_on) rfl
  obtain ⟨fd10, F10⟩ := c.def_ 10 (d := D_raw_stands) rfl
  obtain ⟨fd11, F11⟩ := c.def_ 11 (d := D_stands_of) rfl
  obtain ⟨fd12, F12⟩ := c.def_ 12 (d := D_raw_covers) rfl
  obtain ⟨fd13, F13⟩ := c.def_ 13 (d := D_covers_of) rfl
  obtain ⟨fd14, F14⟩ := c.def_ 14 (d := D_check_steps) rfl
  obtain ⟨fd15, F15⟩ := c.def_ 15 (d := D_led_on) rfl
  obtain ⟨fd16, F16⟩ := c.def_ 16 (d := D_trails_many) rfl
  obtain ⟨fd17, F17⟩ := c.def_ 17 (d := D_trace_by) rfl
  obtain ⟨fd18, F18⟩ := c.def_ 18 (d := D_growth_row) rfl
  obtain ⟨fd19, F19⟩ := c.def_ 19 (d := D__law_hand) rfl
  obtain ⟨fd20, F20⟩ := c.def_ 20 (d := D__law_draw) rfl
  obtain ⟨fd21, F21⟩ := c.def_ 21 (d := D__law_any) rfl
  obtain ⟨fd22, F22⟩ := c.def_ 22 (d := D__law_is) rfl
  obtain ⟨fd23, F23⟩ := c.def_ 23 (d := D__law_low) rfl
  obtain ⟨fd24, F24⟩ := c.def_ 24 (d := D__law_less) rfl
  obtain ⟨fd25, F25⟩ := c.def_ 25 (d := D__law_is_less) rfl
  obtain ⟨fd26, F26⟩ := c.def_ 26 (d := D__law_shifts) rfl
  obtain ⟨fd27, F27⟩ := c.def_ 27 (d := D__law_longer) rfl
  obtain ⟨fd28, F28⟩ := c.def_ 28 (d := D__law_all) rfl
  obtain ⟨fd29, F29⟩ := c.def_ 29 (d := D__law_star) rfl
  obtain ⟨fd30, F30⟩ := c.def_ 30 (d := D__law_stands) rfl
  obtain ⟨fd31, F31⟩ := c.def_ 31 (d := D__law_covers) rfl
  obtain ⟨fd32, F32⟩ := c.def_ 32 (d := D__law_stepped) rfl
  obtain ⟨fd33, F33⟩ := c.def_ 33 (d := D__law_trails) rfl
  obtain ⟨fd34, F34⟩ := c.def_ 34 (d := D__law_trace) rfl
  obtain ⟨fd35, F35⟩ := c.def_ 35 (d := D__law_poly) rfl
  obtain ⟨fd36, F36⟩ := c.def_ 36 (d := D__law_row) rfl
  obtain ⟨fd37, F37⟩ := c.def_ 37 (d := D__law_is_right) rfl
  obtain ⟨fd38, F38⟩ := c.def_ 38 (d := D_law) rfl
  have e := hfa.symm.trans (He.glo_ok X G (c.fact 38 (f := .glo "law") rfl))
  cases e
  have bl := FunD.bindsA (ps := ["script"]) F38 fun _ _ _ _ _ _ us hl => match us, hl with | [_], _ => rfl
  refine ⟨fd38, fun s v => bl s [v] rfl, fun base _ _ => ?_⟩
  have E_is_integer : OkD P w K mg base "is_integer" 1 1 .fz d_is_integer := ⟨_, fd0, ["thing"], ok_is_integer ff  F0, He.glo_ok X G (c.fact 0 (f := .glo "is_integer") rfl), F0.kp, F0.bindsN fun _ _ _ _ _ _ us hl => match us, hl with | [_], _ => rfl⟩
  have E_is_within : OkD P w K mg base "is_within" 2 3 .fz d_is_within := ⟨_, fd1, ["thing", "low", "high"], ok_is_within ff E_is_integer F1, He.glo_ok X G (c.fact 1 (f := .glo "is_within") rfl), F1.kp, F1.bindsN fun _ _ _ _ _ _ us hl => match us, hl with | [_, _, _], _ => rfl⟩
  have E_is_turn_word : OkD P w K mg base "is_turn_word" 1 1 .fz d_is_turn_word := ⟨_, fd2, ["thing"], ok_is_turn_word ff  F2, He.glo_ok X G (c.fact 2 (f := .glo "is_turn_word") rfl), F2.kp, F2.bindsN fun _ _ _ _ _ _ us hl => match us, hl with | [_], _ => rfl⟩
  have E_check_turn_word : OkD P w K mg base "check_turn_word" 2 1 .fz d_check_turn_word := ⟨_, fd3, ["thing"], ok_check_turn_word ff E_is_turn_word F3, He.glo_ok X G (c.fact 3 (f := .glo "check_turn_word") rfl), F3.kp, F3.bindsN fun _ _ _ _ _ _ us hl => match us, hl with | [_], _ => rfl⟩
  have E_rank_of : OkD P w K mg base "rank_of" 1 1 .fz d_rank_of := ⟨_, fd4, ["sign"], ok_rank_of ff  F4, He.glo_ok X G (c.fact 4 (f := .glo "rank_of") rfl), F4.kp, F4.bindsN fun _ _ _ _ _ _ us hl => match us, hl with | [_], _ => rfl⟩
  have E_is_raw_less : OkD P w K mg base "is_raw_less" 2 2 .fz d_is_raw_less := ⟨_, fd5, ["one", "other"], ok_is_raw_less ff E_rank_of F5, He.glo_ok X G (c.fact 5 (f := .glo "is_raw_less") rfl), F5.kp, F5.bindsN fun _ _ _ _ _ _ us hl => match us, hl with | [_, _], _ => rfl⟩
  have E_not_less_shifts : OkD P w K mg base "not_less_shifts" 3 1 .fz d_not_less_shifts := ⟨_, fd6, ["word"], ok_not_less_shifts ff E_is_raw_less F6, He.glo_ok X G (c.fact 6 (f := .glo "not_less_shifts") rfl), F6.kp, F6.bindsN fun _ _ _ _ _ _ us hl => match us, hl with | [_], _ => rfl⟩
  have E_check_greatest : OkD P w K mg base "check_greatest" 4 1 .fz d_check_greatest := ⟨_, fd7, ["word"], ok_check_greatest ff E_check_turn_word E_not_less_shifts F7, He.glo_ok X G (c.fact 7 (f := .glo "check_greatest") rfl), F7.kp, F7.bindsN fun _ _ _ _ _ _ us hl => match us, hl with | [_], _ => rfl⟩
  have E_check_long : OkD P w K mg base "check_long" 5 1 .fz d_check_long := ⟨_, fd8, ["word"], ok_check_long ff E_check_greatest F8, He.glo_ok X G (c.fact 8 (f := .glo "check_long") rfl), F8.kp, F8.bindsN fun _ _ _ _ _ _ us hl => match us, hl with | [_], _ => rfl⟩
  have E_told_on : OkD P w K mg base "told_on" 1 2 .fz d_told_on := ⟨_, fd9, ["word", "shift"], ok_told_on ff  F9, He.glo_ok X G (c.fact 9 (f := .glo "told_on") rfl), F9.kp, F9.bindsN fun _ _ _ _ _ _ us hl => match us, hl with | [_, _], _ => rfl⟩
  have E_raw_stands : OkD P w K mg base "raw_stands" 3 1 .fz d_raw_stands := ⟨_, fd10, ["word"], ok_raw_stands ff E_is_raw_less E_told_on F10, He.glo_ok X G (c.fact 10 (f := .glo "raw_stands") rfl), F10.kp, F10.bindsN fun _ _ _ _ _ _ us hl => match us, hl with | [_], _ => rfl⟩
  have E_stands_of : OkD P w K mg base "stands_of" 6 1 .fz d_stands_of := ⟨_, fd11, ["word"], ok_stands_of ff E_check_long E_raw_stands F11, He.glo_ok X G (c.fact 11 (f := .glo "stands_of") rfl), F11.kp, F11.bindsN fun _ _ _ _ _ _ us hl => match us, hl with | [_], _ => rfl⟩
  have E_raw_covers : OkD P w K mg base "raw_covers" 4 1 .fz d_raw_covers := ⟨_, fd12, ["word"], ok_raw_covers ff E_raw_stands F12, He.glo_ok X G (c.fact 12 (f := .glo "raw_covers") rfl), F12.kp, F12.bindsN fun _ _ _ _ _ _ us hl => match us, hl with | [_], _ => rfl⟩
  have E_covers_of : OkD P w K mg base "covers_of" 6 1 .fz d_covers_of := ⟨_, fd13, ["word"], ok_covers_of ff E_check_long E_raw_covers F13, He.glo_ok X G (c.fact 13 (f := .glo "covers_of") rfl), F13.kp, F13.bindsN fun _ _ _ _ _ _ us hl => match us, hl with | [_], _ => rfl⟩
  have E_check_steps : OkD P w K mg base "check_steps" 6 3 .fz d_check_steps := ⟨_, fd14, ["word", "steps", "least"], ok_check_steps ff E_is_within E_check_long F14, He.glo_ok X G (c.fact 14 (f := .glo "check_steps") rfl), F14.kp, F14.bindsN fun _ _ _ _ _ _ us hl => match us, hl with | [_, _, _], _ => rfl⟩
  have E_led_on : OkD P w K mg base "led_on" 1 2 .fz d_led_on := ⟨_, fd15, ["covers", "row"], ok_led_on ff  F15, He.glo_ok X G (c.fact 15 (f := .glo "led_on") rfl), F15.kp, F15.bindsN fun _ _ _ _ _ _ us hl => match us, hl with | [_, _], _ => rfl⟩
  have E_trails_many : OkD P w K mg base "trails_many" 7 2 .fz d_trails_many := ⟨_, fd16, ["word", "steps"], ok_trails_many ff E_raw_covers E_check_steps E_led_on F16, He.glo_ok X G (c.fact 16 (f := .glo "trails_many") rfl), F16.kp, F16.bindsN fun _ _ _ _ _ _ us hl => match us, hl with | [_, _], _ => rfl⟩
  have E_trace_by : OkD P w K mg base "trace_by" 7 2 .fz d_trace_by := ⟨_, fd17, ["word", "steps"], ok_trace_by ff E_raw_covers E_check_steps E_led_on F17, He.glo_ok X G (c.fact 17 (f := .glo "trace_by") rfl), F17.kp, F17.bindsN fun _ _ _ _ _ _ us hl => match us, hl with | [_, _], _ => rfl⟩
  have E_growth_row : OkD P w K mg base "growth_row" 6 1 .fz d_growth_row := ⟨_, fd18, ["word"], ok_growth_row ff E_check_long F18, He.glo_ok X G (c.fact 18 (f := .glo "growth_row") rfl), F18.kp, F18.bindsN fun _ _ _ _ _ _ us hl => match us, hl with | [_], _ => rfl⟩
  have E__law_hand : OkD P w K mg base "_law_hand" 1 1 .fr d__law_hand := ⟨_, fd19, ["script"], ok__law_hand ff  F19, He.glo_ok X G (c.fact 19 (f := .glo "_law_hand") rfl), F19.kp, F19.bindsN fun _ _ _ _ _ _ us hl => match us, hl with | [_], _ => rfl⟩
  have E__law_draw : OkD P w K mg base "_law_draw" 1 2 .fz d__law_draw := ⟨_, fd20, ["hand", "many"], ok__law_draw ff  F20, He.glo_ok X G (c.fact 20 (f := .glo "_law_draw") rfl), F20.kp, F20.bindsN fun _ _ _ _ _ _ us hl => match us, hl with | [_, _], _ => rfl⟩
  have E__law_any : OkD P w K mg base "_law_any" 2 2 .fz d__law_any := ⟨_, fd21, ["hand", "some"], ok__law_any ff E__law_draw F21, He.glo_ok X G (c.fact 21 (f := .glo "_law_any") rfl), F21.kp, F21.bindsN fun _ _ _ _ _ _ us hl => match us, hl with | [_, _], _ => rfl⟩
  have E__law_is : OkG P w K mg base "_law_is" 1 2 .fz d__law_is := ⟨_, fd22, ["told", "due"], ok__law_is ff  F22, He.glo_ok X G (c.fact 22 (f := .glo "_law_is") rfl), F22.kp, F22.bindsN fun _ _ _ _ _ _ us hl => match us, hl with | [_, _], _ => rfl⟩
  have E__law_low : OkD P w K mg base "_law_low" 1 2 .fz d__law_low := ⟨_, fd23, ["top", "bottom"], ok__law_low ff  F23, He.glo_ok X G (c.fact 23 (f := .glo "_law_low") rfl), F23.kp, F23.bindsN fun _ _ _ _ _ _ us hl => match us, hl with | [_, _], _ => rfl⟩
  have E__law_less : OkD P w K mg base "_law_less" 1 2 .fz d__law_less := ⟨_, fd24, ["one", "other"], ok__law_less ff  F24, He.glo_ok X G (c.fact 24 (f := .glo "_law_less") rfl), F24.kp, F24.bindsN fun _ _ _ _ _ _ us hl => match us, hl with | [_, _], _ => rfl⟩
  have E__law_is_less : OkD P w K mg base "_law_is_less" 1 2 .fz d__law_is_less := ⟨_, fd25, ["one", "other"], ok__law_is_less ff  F25, He.glo_ok X G (c.fact 25 (f := .glo "_law_is_less") rfl), F25.kp, F25.bindsN fun _ _ _ _ _ _ us hl => match us, hl with | [_, _], _ => rfl⟩
  have E__law_shifts : OkD P w K mg base "_law_shifts" 2 1 .fz d__law_shifts := ⟨_, fd26, ["word"], ok__law_shifts ff E__law_is_less F26, He.glo_ok X G (c.fact 26 (f := .glo "_law_shifts") rfl), F26.kp, F26.bindsN fun _ _ _ _ _ _ us hl => match us, hl with | [_], _ => rfl⟩
  have E__law_longer : OkD P w K mg base "_law_longer" 1 1 .fz d__law_longer := ⟨_, fd27, ["rows"], ok__law_longer ff  F27, He.glo_ok X G (c.fact 27 (f := .glo "_law_longer") rfl), F27.kp, F27.bindsN fun _ _ _ _ _ _ us hl => match us, hl with | [_], _ => rfl⟩
  have E__law_all : OkD P w K mg base "_law_all" 3 1 .fz d__law_all := ⟨_, fd28, ["size"], ok__law_all ff E__law_is_less E__law_shifts E__law_longer F28, He.glo_ok X G (c.fact 28 (f := .glo "_law_all") rfl), F28.kp, F28.bindsN fun _ _ _ _ _ _ us hl => match us, hl with | [_], _ => rfl⟩
  have E__law_star : OkD P w K mg base "_law_star" 1 2 .fz d__law_star := ⟨_, fd29, ["one", "other"], ok__law_star ff  F29, He.glo_ok X G (c.fact 29 (f := .glo "_law_star") rfl), F29.kp, F29.bindsN fun _ _ _ _ _ _ us hl => match us, hl with | [_, _], _ => rfl⟩
  have E__law_stands : OkD P w K mg base "_law_stands" 2 1 .fz d__law_stands := ⟨_, fd30, ["word"], ok__law_stands ff E__law_is_less F30, He.glo_ok X G (c.fact 30 (f := .glo "_law_stands") rfl), F30.kp, F30.bindsN fun _ _ _ _ _ _ us hl => match us, hl with | [_], _ => rfl⟩
  have E__law_covers : OkD P w K mg base "_law_covers" 1 1 .fz d__law_covers := ⟨_, fd31, ["stands"], ok__law_covers ff  F31, He.glo_ok X G (c.fact 31 (f := .glo "_law_covers") rfl), F31.kp, F31.bindsN fun _ _ _ _ _ _ us hl => match us, hl with | [_], _ => rfl⟩
  have E__law_stepped : OkD P w K mg base "_law_stepped" 1 2 .fz d__law_stepped := ⟨_, fd32, ["covers", "row"], ok__law_stepped ff  F32, He.glo_ok X G (c.fact 32 (f := .glo "_law_stepped") rfl), F32.kp, F32.bindsN fun _ _ _ _ _ _ us hl => match us, hl with | [_, _], _ => rfl⟩
  have E__law_trails : OkD P w K mg base "_law_trails" 2 2 .fz d__law_trails := ⟨_, fd33, ["covers", "steps"], ok__law_trails ff E__law_stepped F33, He.glo_ok X G (c.fact 33 (f := .glo "_law_trails") rfl), F33.kp, F33.bindsN fun _ _ _ _ _ _ us hl => match us, hl with | [_, _], _ => rfl⟩
  have E__law_trace : OkD P w K mg base "_law_trace" 2 2 .fz d__law_trace := ⟨_, fd34, ["covers", "steps"], ok__law_trace ff E__law_stepped F34, He.glo_ok X G (c.fact 34 (f := .glo "_law_trace") rfl), F34.kp, F34.bindsN fun _ _ _ _ _ _ us hl => match us, hl with | [_, _], _ => rfl⟩
  have E__law_poly : OkD P w K mg base "_law_poly" 3 1 .fz d__law_poly := ⟨_, fd35, ["covers"], ok__law_poly ff E__law_trace F35, He.glo_ok X G (c.fact 35 (f := .glo "_law_poly") rfl), F35.kp, F35.bindsN fun _ _ _ _ _ _ us hl => match us, hl with | [_], _ => rfl⟩
  have E__law_row : OkD P w K mg base "_law_row" 1 1 .fz d__law_row := ⟨_, fd36, ["word"], ok__law_row ff  F36, He.glo_ok X G (c.fact 36 (f := .glo "_law_row") rfl), F36.kp, F36.bindsN fun _ _ _ _ _ _ us hl => match us, hl with | [_], _ => rfl⟩
  have E__law_is_right : OkG P w K mg base "_law_is_right" 8 2 .fz d__law_is_right := ⟨_, fd37, ["hand", "word"], ok__law_is_right ff E_stands_of E_covers_of E_trails_many E_trace_by E_growth_row E__law_draw E__law_any E__law_is E__law_stands E__law_covers E__law_trails E__law_trace E__law_poly E__law_row F37, He.glo_ok X G (c.fact 37 (f := .glo "_law_is_right") rfl), F37.kp, F37.bindsN fun _ _ _ _ _ _ us hl => match us, hl with | [_, _], _ => rfl⟩
  exact ok_law ff E__law_hand E__law_any E__law_all E__law_star E__law_is_right F38 law
end K14
open PySem PySem.W PySem.Calls PyProof.Rows
theorem PySem.Challenge.cw_landtogether_k14_whole_covers_of_words_t_holds : PySem.Challenge.rw_landtogether_k14_whole_covers_of_words_t.Holds := by
  w_on; o_law
  refine HandSHeadRun.head_any (r := OpenLaw.row PySem.Challenge.rw_landtogether_k14_whole_covers_of_words_t) (q := view (OpenLaw.row PySem.Challenge.rw_landtogether_k14_whole_covers_of_words_t).prog [52]) (H := K14.hk) (ob := K14.ob) (M := 4000) (loose := K14.loL) (d := HandSHeadRun.topDef (OpenLaw.row PySem.Challenge.rw_landtogether_k14_whole_covers_of_words_t).prog 52) (kwd := []) K14.ob_eq
    (by kernel_rfl) (fun s => by kernel_rfl) K14.run (by kernel_rfl) (by kernel_rfl) (by kernel_rfl) (by rfl) (by first | assumption | decide +kernel) (by decide +kernel) ⟨rfl, rfl, rfl, rfl, rfl, by decide +kernel⟩ ?hw ?hc
  case hw => w_witness2
  case hc =>
    refine PL.walk_ofG (l := PySem.Challenge.rw_landtogether_k14_whole_covers_of_words_t) (n := 63) (k := 9) (x := "script") rfl (by decide) (by kernel_rfl) ⟨rfl, by decide, by decide⟩ ?F
    intro w mg fa h Y G hmg0
    obtain ⟨K, KX, c⟩ := Y
    have hmg : mg ("law" : PySem.Str) = some (.ref fa) := by
      have e : (HandSHeadRun.topDef (OpenLaw.row PySem.Challenge.rw_landtogether_k14_whole_covers_of_words_t).prog 52).name = ("law" : PySem.Str) := by kernel_rfl
      rw [← e]
      exact hmg0
    obtain ⟨fd, hb, hF⟩ := K14.facts (P := (PySem.Challenge.rw_landtogether_k14_whole_covers_of_words_t).prog) (w := w) KX G hmg c (fun ns hl => K14.law_plain K14.words ns hl)
    exact ⟨K, fd, PL.spLaw K 63, KX, hb, fun H a ns hl _ hS => ⟨a, ns, rfl, hl, hS, fun _ => rfl⟩, hF⟩
