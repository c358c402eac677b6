import PyProof.Rows.All
import Wide.All
import OpenK.AllK
import Wide.FinOn
import HandS.ForMost
import HandS.WordsExc
import HandS.EndTab
import HandS.Flow
import HandS.Style
import HandS.TupAny
import HandS.TupMul
import HandS.StrMore
import HandS.Deep
import KE.GoesMore
import HandS.JoinGen
import PyProof.WalksMore
import HandS.Head0
import HandS.Head1
import HandS.Head2
import HandS.HeadEnd
import HandS.HeadHook1
import HandS.HeadHook2
import HandS.HeadHook3
import HandS.HeadHook4
import HandS.HeadWalk
import PySem.Challenge.RW_editstack_k01_places_in_texts
set_option Elab.async false
set_option linter.all false
set_option maxRecDepth 100000
set_option maxHeartbeats 4000000
set_option Elab.async false
set_option linter.all false
set_option maxRecDepth 100000
set_option maxHeartbeats 1000000
namespace Mir
open PySem L2

/-- data -/
inductive D where
  | non | bl (b : Bool) | int (i : Int) | str (s : List Nat)
  | tup (xs : List D) | lst (xs : List D) | dct (ks ds : List D) | obj (c : Nat) (fs : List D) | fn (k : Nat) | scr (xs : List D)
  deriving Inhabited

abbrev Rho := List (Option D)
inductive Out (α : Type) where
  | stk | ok (a : α) (r : Rho) | ex (c : Nat) (r : Rho)
abbrev M (α : Type) := Rho → Out α
def bnd {α β : Type} (f : M α) (g : α → M β) : M β := fun r => match f r with
  | .stk => .stk
  | .ok a r' => g a r'
  | .ex c r' => .ex c r'
def lif {α : Type} (o : Option α) : M α := fun r => match o with
  | some a => .ok a r
  | none => .stk
inductive Fl where
  | stk | nx (r : Rho) | rt (d : D) (r : Rho) | bk (r : Rho) | ct (r : Rho) | ex (c : Nat) (r : Rho)

structure Tb where
  exc : Nat → Addr
  cls : Nat → Addr × List Str
  tabs : List (Addr × Str)

def keyD : D → Option Key
  | .int i => some (.inl i)
  | .str s => some (.inr ⟨s.toArray⟩)
  | _ => none

section
variable (K : PySem.W.Frag)
mutual
/-- v stands for d, all of it in the frozen part G -/
def Rep (G : Hp) : D → V → Prop
  | .non, v => v = .non
  | .bl b, v => v = .bl b
  | .int i, v => v = .int i
  | .str s, v => v = .str ⟨s.toArray⟩
  | .tup xs, v => ∃ a vs, v = .ref a ∧ SqT K G a vs ∧ RepL G xs vs
  | .lst xs, v => ∃ a vs, v = .ref a ∧ G a = some (.lst vs) ∧ RepL G xs vs
  | .scr xs, v => ∃ a vs, v = .ref a ∧ SqL K G a vs ∧ RepL G xs vs
  | .dct ks ds, v => ∃ a kvs, v = .ref a ∧ Rd G a (.dK kvs) ∧ ks.map keyD = kvs.map (fun p => some p.1) ∧ RepL G ds (kvs.map (·.2))
  | .obj _ _, _ => False
  | .fn _, _ => False
def RepL (G : Hp) : List D → List V → Prop
  | [], vs => vs = []
  | d :: ds, vs => ∃ v vs', vs = v :: vs' ∧ Rep G d v ∧ RepL G ds vs'
end
variable (T : Tb)
mutual
/-- v owns d: its lists, dicts, instances outside tuples stand at fp -/
def MRep (G H : Hp) : D → V → List Addr → Prop
  | .lst ds, v, fp => ∃ a vs fps, v = .ref a ∧ H a = some (.lst vs) ∧ MRepL G H ds vs fps ∧ fp = a :: fps
  | .dct ks ds, v, fp => ∃ a kvs fps, v = .ref a ∧ Rd H a (.dK kvs) ∧ ks.map keyD = kvs.map (fun p => some p.1) ∧ MRepL G H ds (kvs.map (·.2)) fps ∧ fp = a :: fps
  | .obj c fs, v, fp => ∃ a dx vs fps, v = .ref a ∧ H a = some (.ins (T.cls c).1 dx ((T.cls c).2.zip vs)) ∧ H dx = some (.own a) ∧ MRepL G H fs vs fps ∧ fp = a :: dx :: fps
  | .non, v, fp => v = .non ∧ fp = []
  | .bl b, v, fp => v = .bl b ∧ fp = []
  | .int i, v, fp => v = .int i ∧ fp = []
  | .str s, v, fp => v = .str ⟨s.toArray⟩ ∧ fp = []
  | .tup xs, v, fp => Rep K G (.tup xs) v ∧ fp = []
  | .fn k, v, fp => False
  | .scr xs, v, fp => False
def MRepL (G H : Hp) : List D → List V → List Addr → Prop
  | [], vs, fp => vs = [] ∧ fp = []
  | d :: ds, vs, fp => ∃ v vs' f1 f2, vs = v :: vs' ∧ MRep G H d v f1 ∧ MRepL G H ds vs' f2 ∧ fp = f1 ++ f2
end
end

/-- all but tables of G stand in H -/
def Sub (G H : Hp) : Prop := ∀ a u, G a = some u → (∀ ps, u ≠ .tbl ps) → H a = some u
theorem Sub.refl (G : Hp) : Sub G G := fun _ _ h _ => h
theorem Sub.trans {A B C : Hp} (h : Sub A B) (g : Sub B C) : Sub A C := fun a u e n => g a u (h a u e n) n
theorem Sub.rd {G H : Hp} (h : Sub G H) {a : Addr} {u : HO} (n : ∀ ps, u ≠ .tbl ps) (r : Rd G a u) : Rd H a u := by
  rcases r with r | ⟨o, r⟩
  · exact .inl (h _ _ r n)
  · exact .inr ⟨o, h _ _ r (fun ps z => by cases z)⟩
theorem Sub.l {K : PySem.W.Frag} {G H : Hp} (h : Sub G H) {a : Addr} {xs : List V} (r : SqL K G a xs) : SqL K H a xs := by
  rcases r with r | r
  · exact .inl (h.rd (fun ps z => by cases z) r)
  · exact .inr r
theorem Sub.t {K : PySem.W.Frag} {G H : Hp} (h : Sub G H) {a : Addr} {xs : List V} (r : SqT K G a xs) : SqT K H a xs := by
  rcases r with r | r
  · exact .inl (h.rd (fun ps z => by cases z) r)
  · exact .inr r
theorem sub_new {G : Hp} {p : Addr} {u : HO} (h : G p = none) : Sub G (upd G p u) := fun a x e _ => by
  rw [upd_ne (ne_of_none e h)]; exact e

section
variable {K : PySem.W.Frag} {T : Tb} {G G' H H' : Hp}
mutual
theorem Rep.mono (h : Sub G G') : ∀ (d : D) (v : V), Rep K G d v → Rep K G' d v
  | .non, v, r => r
  | .bl b, v, r => r
  | .int i, v, r => r
  | .str s, v, r => r
  | .tup xs, v, r => by
    obtain ⟨a, vs, e, s, l⟩ := r
    exact ⟨a, vs, e, h.t s, RepL.mono h xs vs l⟩
  | .lst xs, v, r => by
    obtain ⟨a, vs, e, s, l⟩ := r
    exact ⟨a, vs, e, h _ _ s (fun ps z => by cases z), RepL.mono h xs vs l⟩
  | .scr xs, v, r => by
    obtain ⟨a, vs, e, s, l⟩ := r
    exact ⟨a, vs, e, h.l s, RepL.mono h xs vs l⟩
  | .dct ks ds, v, r => by
    obtain ⟨a, kvs, e, s, k, l⟩ := r
    exact ⟨a, kvs, e, h.rd (fun ps z => by cases z) s, k, RepL.mono h ds _ l⟩
  | .obj _ _, _, r => r.elim
  | .fn _, _, r => r.elim
theorem RepL.mono (h : Sub G G') : ∀ (ds : List D) (vs : List V), RepL K G ds vs → RepL K G' ds vs
  | [], vs, r => r
  | d :: ds, vs, r => by
    obtain ⟨v, vs', e, r1, r2⟩ := r
    exact ⟨v, vs', e, Rep.mono h d v r1, RepL.mono h ds vs' r2⟩
end
end
section
variable {K : PySem.W.Frag} {T : Tb} {G G' H H' : Hp}
theorem rd_some {a : Addr} {u : HO} (r : Rd H a u) : H a ≠ none := by
  rcases r with r | ⟨o, r⟩ <;> rw [r] <;> simp
theorem rd_at {a : Addr} {u : HO} (e : H' a = H a) (r : Rd H a u) : Rd H' a u := by
  rcases r with r | ⟨o, r⟩
  · exact .inl (e.trans r)
  · exact .inr ⟨o, e.trans r⟩
mutual
theorem MRep.live : ∀ (d : D) (v : V) (fp : List Addr), MRep K T G H d v fp → ∀ a ∈ fp, H a ≠ none
  | .lst ds, v, fp, r => by
    obtain ⟨a, vs, fps, _, e, l, rfl⟩ := r
    intro b hb
    rcases List.mem_cons.mp hb with rfl | hb
    · rw [e]; simp
    · exact MRepL.live ds vs fps l b hb
  | .dct ks ds, v, fp, r => by
    obtain ⟨a, kvs, fps, _, e, _, l, rfl⟩ := r
    intro b hb
    rcases List.mem_cons.mp hb with rfl | hb
    · exact rd_some e
    · exact MRepL.live ds _ fps l b hb
  | .obj c fs, v, fp, r => by
    obtain ⟨a, dx, vs, fps, _, e, e2, l, rfl⟩ := r
    intro b hb
    rcases List.mem_cons.mp hb with rfl | hb
    · rw [e]; simp
    · rcases List.mem_cons.mp hb with rfl | hb
      · rw [e2]; simp
      · exact MRepL.live fs vs fps l b hb
  | .non, v, fp, r => by obtain ⟨_, rfl⟩ := r; simp
  | .bl b, v, fp, r => by obtain ⟨_, rfl⟩ := r; simp
  | .int i, v, fp, r => by obtain ⟨_, rfl⟩ := r; simp
  | .str s, v, fp, r => by obtain ⟨_, rfl⟩ := r; simp
  | .tup xs, v, fp, r => by obtain ⟨_, rfl⟩ := r; simp
  | .fn k, v, fp, r => r.elim
  | .scr k, v, fp, r => r.elim
theorem MRepL.live : ∀ (ds : List D) (vs : List V) (fp : List Addr), MRepL K T G H ds vs fp → ∀ a ∈ fp, H a ≠ none
  | [], vs, fp, r => by obtain ⟨_, rfl⟩ := r; simp
  | d :: ds, vs, fp, r => by
    obtain ⟨v, vs', f1, f2, _, r1, r2, rfl⟩ := r
    intro a ha
    rcases List.mem_append.mp ha with h | h
    · exact MRep.live d v f1 r1 a h
    · exact MRepL.live ds vs' f2 r2 a h
end
mutual
/-- the nodes as they were, the frozen part grown -/
theorem MRep.keep (hG : Sub G G') : ∀ (d : D) (v : V) (fp : List Addr), MRep K T G H d v fp → (∀ a ∈ fp, H' a = H a) → MRep K T G' H' d v fp
  | .lst ds, v, fp, r, k => by
    obtain ⟨a, vs, fps, e0, e, l, rfl⟩ := r
    exact ⟨a, vs, fps, e0, (k a (by simp)).trans e, MRepL.keep hG ds vs fps l fun b hb => k b (by simp [hb]), rfl⟩
  | .dct ks ds, v, fp, r, k => by
    obtain ⟨a, kvs, fps, e0, e, q, l, rfl⟩ := r
    exact ⟨a, kvs, fps, e0, rd_at (k a (by simp)) e, q, MRepL.keep hG ds _ fps l fun b hb => k b (by simp [hb]), rfl⟩
  | .obj c fs, v, fp, r, k => by
    obtain ⟨a, dx, vs, fps, e0, e, e2, l, rfl⟩ := r
    exact ⟨a, dx, vs, fps, e0, (k a (by simp)).trans e, (k dx (by simp)).trans e2, MRepL.keep hG fs vs fps l fun b hb => k b (by simp [hb]), rfl⟩
  | .non, v, fp, r, _ => r
  | .bl b, v, fp, r, _ => r
  | .int i, v, fp, r, _ => r
  | .str s, v, fp, r, _ => r
  | .tup xs, v, fp, r, _ => ⟨Rep.mono hG _ _ r.1, r.2⟩
  | .fn k, v, fp, r, _ => r.elim
  | .scr k, v, fp, r, _ => r.elim
theorem MRepL.keep (hG : Sub G G') : ∀ (ds : List D) (vs : List V) (fp : List Addr), MRepL K T G H ds vs fp → (∀ a ∈ fp, H' a = H a) → MRepL K T G' H' ds vs fp
  | [], vs, fp, r, _ => r
  | d :: ds, vs, fp, r, k => by
    obtain ⟨v, vs', f1, f2, e, r1, r2, rfl⟩ := r
    exact ⟨v, vs', f1, f2, e, MRep.keep hG d v f1 r1 (fun b hb => k b (by simp [hb])), MRepL.keep hG ds vs' f2 r2 (fun b hb => k b (by simp [hb])), rfl⟩
end
/-! data without an instance -/
mutual
def noObj : D → Bool
  | .lst ds => noObjL ds
  | .dct _ ds => noObjL ds
  | .obj _ _ => false
  | _ => true
def noObjL : List D → Bool
  | [] => true
  | d :: ds => noObj d && noObjL ds
end
mutual
/-- what is owned is read in any heap that holds the frozen part and its nodes -/
theorem MRep.rep (hG : Sub G G') : ∀ (d : D) (v : V) (fp : List Addr), MRep K T G H d v fp → (∀ a ∈ fp, G' a = H a) → noObj d = true → Rep K G' d v
  | .lst ds, v, fp, r, k, n => by
    obtain ⟨a, vs, fps, e0, e, l, rfl⟩ := r
    exact ⟨a, vs, e0, (k a (by simp)).trans e, MRepL.rep hG ds vs fps l (fun b hb => k b (by simp [hb])) n⟩
  | .dct ks ds, v, fp, r, k, n => by
    obtain ⟨a, kvs, fps, e0, e, q, l, rfl⟩ := r
    exact ⟨a, kvs, e0, rd_at (k a (by simp)) e, q, MRepL.rep hG ds _ fps l (fun b hb => k b (by simp [hb])) n⟩
  | .obj c fs, v, fp, r, k, n => by simp [noObj] at n
  | .non, v, fp, r, _, _ => r.1
  | .bl b, v, fp, r, _, _ => r.1
  | .int i, v, fp, r, _, _ => r.1
  | .str s, v, fp, r, _, _ => r.1
  | .tup xs, v, fp, r, _, _ => Rep.mono hG _ _ r.1
  | .fn k, v, fp, r, _, _ => r.elim
  | .scr k, v, fp, r, _, _ => r.elim
theorem MRepL.rep (hG : Sub G G') : ∀ (ds : List D) (vs : List V) (fp : List Addr), MRepL K T G H ds vs fp → (∀ a ∈ fp, G' a = H a) → noObjL ds = true → RepL K G' ds vs
  | [], vs, fp, r, _, _ => r.1
  | d :: ds, vs, fp, r, k, n => by
    obtain ⟨v, vs', f1, f2, e, r1, r2, rfl⟩ := r
    simp only [noObjL, Bool.and_eq_true] at n
    exact ⟨v, vs', e, MRep.rep hG d v f1 r1 (fun b hb => k b (by simp [hb])) n.1, MRepL.rep hG ds vs' f2 r2 (fun b hb => k b (by simp [hb])) n.2⟩
end
end

/-! ### the worlds -/
structure Wd where
  G : Hp
  fp : Nat → List Addr
/-- the slots' modes: 0 a value, 1 owned, 2 owned and not changed, 3 owned by who called, its name bound as it is -/
abbrev Modes := List Nat
def mode (o : Modes) (i : Nat) : Nat := o.getD i 0
def mut' (m : Nat) : Bool := m == 1 || m == 3
def Mu (o : Modes) (w : Wd) (a : Addr) : Prop := ∃ i, mut' (mode o i) = true ∧ a ∈ w.fp i
/-- what may pass to another slot or be frozen -/
def Mv (o : Modes) (w : Wd) (a : Addr) : Prop := ∃ i, mode o i = 1 ∧ a ∈ w.fp i
theorem Mv.mu {o : Modes} {w : Wd} {a : Addr} (h : Mv o w a) : Mu o w a := by
  obtain ⟨i, e, m⟩ := h
  exact ⟨i, by rw [e]; rfl, m⟩
structure SR (K : PySem.W.Frag) (T : Tb) (o : Modes) (r : Rho) (σ : L2.St) (H : Hp) (w : Wd) : Prop where
  sub : Sub w.G H
  gtab : ∀ a ps, w.G a ≠ some (.tbl ps)
  val : ∀ i d, r[i]? = some (some d) → ∃ v, σ[i]? = some (some v) ∧ (if mode o i = 0 then Rep K w.G d v else MRep K T w.G H d v (w.fp i))
  off : ∀ i a, a ∈ w.fp i → w.G a = none
  live : ∀ i a, a ∈ w.fp i → H a ≠ none
  dis : ∀ i j a, a ∈ w.fp i → a ∈ w.fp j → i = j
  nd : ∀ i, (w.fp i).Nodup
  ntab : ∀ i a ps, a ∈ w.fp i → H a ≠ some (.tbl ps)
  tab : LamX.Tabs T.tabs H
  len : σ.length = r.length
/-- from here to there -/
structure Stp (o : Modes) (r : Rho) (σ : L2.St) (H : Hp) (w : Wd) (r' : Rho) (σ' : L2.St) (H' : Hp) (w' : Wd) : Prop where
  len : σ'.length = σ.length
  lenR : r'.length = r.length
  grow : Sub w.G w'.G
  newG : ∀ a, w'.G a ≠ none → w.G a ≠ none ∨ H a = none ∨ Mv o w a
  keep : ∀ a u, H a = some u → (∀ ps, u ≠ .tbl ps) → ¬ Mu o w a → H' a = some u
  alive : ∀ a, H a ≠ none → H' a ≠ none
  fps : ∀ i a, a ∈ w'.fp i → H a = none ∨ Mv o w a ∨ a ∈ w.fp i
  fix : ∀ i, mode o i = 2 → r'[i]? = r[i]? ∧ w'.fp i = w.fp i
  bind : ∀ i, 2 ≤ mode o i → σ'[i]? = σ[i]?
  kext : ∀ a φ, H a = some (.ext φ) → H' a = some (.ext φ)
theorem Stp.refl (o : Modes) (r : Rho) (σ : L2.St) (H : Hp) (w : Wd) : Stp o r σ H w r σ H w :=
  ⟨rfl, rfl, Sub.refl _, fun _ h => .inl h, fun _ _ e _ _ => e, fun _ h => h, fun _ _ h => .inr (.inr h), fun _ _ => ⟨rfl, rfl⟩, fun _ _ => rfl, fun _ _ e => e⟩
theorem Stp.mu {o : Modes} {r r1 : Rho} {σ σ1 : L2.St} {H H1 : Hp} {w w1 : Wd} (s : Stp o r σ H w r1 σ1 H1 w1) {a : Addr} (h : Mu o w1 a) : H a = none ∨ Mu o w a := by
  obtain ⟨i, hm, ha⟩ := h
  rcases s.fps i a ha with h | h | h
  · exact .inl h
  · exact .inr h.mu
  · exact .inr ⟨i, hm, h⟩
theorem Stp.mv {o : Modes} {r r1 : Rho} {σ σ1 : L2.St} {H H1 : Hp} {w w1 : Wd} (s : Stp o r σ H w r1 σ1 H1 w1) {a : Addr} (h : Mv o w1 a) : H a = none ∨ Mv o w a := by
  obtain ⟨i, hm, ha⟩ := h
  rcases s.fps i a ha with h | h | h
  · exact .inl h
  · exact .inr h
  · exact .inr ⟨i, hm, h⟩
theorem Stp.trans {o : Modes} {r r1 r2 : Rho} {σ σ1 σ2 : L2.St} {H H1 H2 : Hp} {w w1 w2 : Wd} (s : Stp o r σ H w r1 σ1 H1 w1) (t : Stp o r1 σ1 H1 w1 r2 σ2 H2 w2) : Stp o r σ H w r2 σ2 H2 w2 := by
  have back : ∀ a, H1 a = none → H a = none := fun a h => by
    cases e : H a with
    | none => rfl
    | some u => exact absurd h (s.alive a (by rw [e]; simp))
  refine ⟨t.len.trans s.len, t.lenR.trans s.lenR, s.grow.trans t.grow, fun a h => ?_, fun a u e n m => ?_, fun a h => t.alive a (s.alive a h), fun i a h => ?_, fun i h => ?_, fun i h => (t.bind i h).trans (s.bind i h), fun a φ e => t.kext a φ (s.kext a φ e)⟩
  · rcases t.newG a h with h | h | h
    · exact s.newG a h
    · exact .inr (.inl (back a h))
    · rcases s.mv h with h | h
      · exact .inr (.inl h)
      · exact .inr (.inr h)
  · refine t.keep a u (s.keep a u e n m) n fun h => ?_
    rcases s.mu h with h | h
    · rw [e] at h; cases h
    · exact m h
  · rcases t.fps i a h with h | h | h
    · exact .inl (back a h)
    · rcases s.mv h with h | h
      · exact .inl h
      · exact .inr (.inl h)
    · exact s.fps i a h
  · obtain ⟨a1, a2⟩ := s.fix i h
    obtain ⟨b1, b2⟩ := t.fix i h
    exact ⟨b1.trans a1, b2.trans a2⟩
/-- nothing that stood was changed -/
structure Quiet (r : Rho) (H : Hp) (w : Wd) (r' : Rho) (H' : Hp) (w' : Wd) : Prop where
  env : r' = r
  fp : w'.fp = w.fp
  keep : ∀ a u, H a = some u → (∀ ps, u ≠ .tbl ps) → H' a = some u
theorem Quiet.refl (r : Rho) (H : Hp) (w : Wd) : Quiet r H w r H w := ⟨rfl, rfl, fun _ _ e _ => e⟩
theorem Quiet.trans {r r1 r2 : Rho} {H H1 H2 : Hp} {w w1 w2 : Wd} (s : Quiet r H w r1 H1 w1) (t : Quiet r1 H1 w1 r2 H2 w2) : Quiet r H w r2 H2 w2 :=
  ⟨t.env.trans s.env, t.fp.trans s.fp, fun a u e n => t.keep a u (s.keep a u e n) n⟩

/-! ### what an expression yields -/
inductive Kd where
  /-- stable | fresh and owned | a list of stable things, readable now | readable now -/
  | S | F | C | R
abbrev VR (α β : Type) := Hp → Wd → Hp → α → β → Prop
def Val (K : PySem.W.Frag) (T : Tb) : Kd → VR D V
  | .S, _, w', _, d, v => Rep K w'.G d v
  | .R, _, _, H', d, v => Rep K H' d v
  | .C, _, w', H', d, v => ∃ a vs ds, v = .ref a ∧ d = .lst ds ∧ H' a = some (.lst vs) ∧ RepL K w'.G ds vs
  | .F, H, w', H', d, v => ∃ fp, MRep K T w'.G H' d v fp ∧ fp.Nodup ∧ ∀ a ∈ fp, H a = none ∧ w'.G a = none ∧ (∀ i, a ∉ w'.fp i) ∧ ∀ ps, H' a ≠ some (.tbl ps)
def vT : VR Bool Bool := fun _ _ _ a b => b = a
def vA (K : PySem.W.Frag) : VR (List D) (List V) := fun _ w' _ ds vs => RepL K w'.G ds vs
def BackV {α β : Type} (val : VR α β) : Prop := ∀ (H H1 : Hp) (w2 : Wd) (H2 : Hp) (d : α) (v : β), (∀ a, H1 a = none → H a = none) → val H1 w2 H2 d v → val H w2 H2 d v
theorem Val.back {K : PySem.W.Frag} {T : Tb} {k : Kd} : BackV (Val K T k) := by
  intro H H1 w2 H2 d v s x
  cases k with
  | S => exact x
  | R => exact x
  | C => exact x
  | F =>
    obtain ⟨fp, m, n, z⟩ := x
    exact ⟨fp, m, n, fun a ha => ⟨s a (z a ha).1, (z a ha).2⟩⟩
theorem vT_back : BackV vT := fun _ _ _ _ _ _ _ x => x
theorem vA_back {K : PySem.W.Frag} : BackV (vA K) := fun _ _ _ _ _ _ _ x => x
def Gd {α β : Type} (K : PySem.W.Frag) (T : Tb) (o : Modes) (q : Bool) (val : VR α β) (W : WX) (r : Rho) (σ : L2.St) (H : Hp) (w : Wd) (x : Out α) (Q : β → Hp → Prop) : Prop := match x with
  | .stk => False
  | .ok d r' => ∀ v H' w', SR K T o r' σ H' w' → Stp o r σ H w r' σ H' w' → (q = true → Quiet r H w r' H' w') → val H w' H' d v → Q v H'
  | .ex c r' => ∀ dd H' w', SR K T o r' σ H' w' → Stp o r σ H w r' σ H' w' → W (.ref (T.exc c)) dd σ H'
structure DE (X : Cx) (T : Tb) (o : Modes) (q : Bool) (k : Kd) (e : Expr) (f : M D) : Prop where
  run : ∀ W, Takes X W → ∃ t, PE X e t ∧ ∀ r σ H w Q, SR X.K T o r σ H w → Gd X.K T o q (Val X.K T k) W r σ H w (f r) Q → t σ H Q
structure DT (X : Cx) (T : Tb) (o : Modes) (q : Bool) (e : Expr) (f : M Bool) : Prop where
  run : ∀ W, Takes X W → ∃ t, PT X e t ∧ ∀ r σ H w Q, SR X.K T o r σ H w → Gd X.K T o q vT W r σ H w (f r) Q → t σ H Q
structure DA (X : Cx) (T : Tb) (o : Modes) (q : Bool) (es : List Expr) (f : M (List D)) : Prop where
  run : ∀ W, Takes X W → ∃ t, PA X es t ∧ ∀ r σ H w Q, SR X.K T o r σ H w → Gd X.K T o q (vA X.K) W r σ H w (f r) Q → t σ H Q

section
variable {K : PySem.W.Frag} {T : Tb} {o : Modes} {q q1 q2 : Bool} {W : WX} {r r1 : Rho} {σ : L2.St} {H H1 : Hp} {w w1 : Wd}
theorem back_of {a : Addr} (s : Stp o r σ H w r1 σ H1 w1) (h : H1 a = none) : H a = none := by
  cases e : H a with
  | none => rfl
  | some u => exact absurd h (s.alive a (by rw [e]; simp))
/-- what is wanted from here is wanted from a later state -/
theorem Gd.adv {α β : Type} {val : VR α β} (bv : BackV val) {x : Out α} {Q : β → Hp → Prop} (s : Stp o r σ H w r1 σ H1 w1) (hq : q = true → q2 = true ∧ Quiet r H w r1 H1 w1) (h : Gd K T o q val W r σ H w x Q) : Gd K T o q2 val W r1 σ H1 w1 x Q := by
  cases x with
  | stk => exact h
  | ok d r' => exact fun v H' w' s1 t1 q1 v1 => h v H' w' s1 (s.trans t1) (fun e => (hq e).2.trans (q1 (hq e).1)) (bv _ _ _ _ _ _ (fun a => back_of s) v1)
  | ex c r' => exact fun dd H' w' s1 t1 => h dd H' w' s1 (s.trans t1)
/-- the first part of a bind -/
theorem Gd.fst {α β α' β' : Type} {val : VR α β} {val' : VR α' β'} (bv : BackV val) {f : M α'} {g : α' → M α} {Q : β → Hp → Prop} {R : β' → Hp → Prop} (h : Gd K T o q val W r σ H w (bnd f g r) Q) (hq : q = true → q1 = true ∧ q2 = true)
    (hR : ∀ d r1 v H1 w1, f r = .ok d r1 → SR K T o r1 σ H1 w1 → Stp o r σ H w r1 σ H1 w1 → (q1 = true → Quiet r H w r1 H1 w1) → val' H w1 H1 d v → Gd K T o q2 val W r1 σ H1 w1 (g d r1) Q → R v H1) :
    Gd K T o q1 val' W r σ H w (f r) R := by
  unfold bnd at h
  cases e : f r with
  | stk => rw [e] at h; exact h
  | ok d r1 =>
    rw [e] at h
    exact fun v H1 w1 s1 t1 q1' v1 => hR d r1 v H1 w1 e s1 t1 q1' v1 (Gd.adv bv t1 (fun z => ⟨(hq z).2, q1' (hq z).1⟩) h)
  | ex c r1 => rw [e] at h; exact h
/-- an end -/
theorem Gd.end {α β : Type} {val : VR α β} {d : α} {Q : β → Hp → Prop} (h : Gd K T o q val W r σ H w (.ok d r) Q) (s : SR K T o r σ H w) {v : β} (hv : val H w H d v) : Q v H :=
  h v H w s (Stp.refl _ _ _ _ _) (fun _ => Quiet.refl _ _ _) hv
theorem Gd.lif {α β : Type} {val : VR α β} {od : Option α} {Q : β → Hp → Prop} (h : Gd K T o q val W r σ H w (lif od r) Q) : ∃ d, od = some d ∧ Gd K T o q val W r σ H w (.ok d r) Q := by
  cases od with
  | none => exact h.elim
  | some d => exact ⟨d, rfl, h⟩
end
section
variable {K : PySem.W.Frag} {T : Tb} {o : Modes} {r : Rho} {σ : L2.St} {H : Hp} {w : Wd}
theorem upd_some {p a : Addr} {u : HO} {H : Hp} (z : H a ≠ none) : upd H p u a ≠ none := by
  by_cases hp : a = p
  · rw [hp, upd_same]; simp
  · rw [upd_ne hp]; exact z
theorem tabs_upd {p : Addr} {u : HO} (h : H p = none) (t : LamX.Tabs T.tabs H) : LamX.Tabs T.tabs (upd H p u) := t.ext fun b x e => by
  rw [upd_ne (ne_of_none e h)]; exact e
/-- a new object, not (yet) owned or frozen -/
theorem SR.fresh {p : Addr} {u : HO} (s : SR K T o r σ H w) (h : H p = none) : SR K T o r σ (upd H p u) w := by
  have sb : Sub H (upd H p u) := sub_new h
  refine ⟨s.sub.trans sb, s.gtab, fun i d e => ?_, s.off, fun i a ha => ?_, s.dis, s.nd, fun i a ps ha => ?_, tabs_upd h s.tab, s.len⟩
  · obtain ⟨v, e1, e2⟩ := s.val i d e
    refine ⟨v, e1, ?_⟩
    split at e2
    · rename_i hm; rw [if_pos hm]; exact e2
    · rename_i hm
      rw [if_neg hm]
      exact MRep.keep (Sub.refl _) _ _ _ e2 fun a ha => upd_ne fun z => s.live i a ha (by rw [z]; exact h)
  · have n := s.live i a ha
    rw [upd_ne (fun z => n (by rw [z]; exact h))]
    exact n
  · have n := s.live i a ha
    rw [upd_ne (fun z => n (by rw [z]; exact h))]
    exact s.ntab i a ps ha
theorem Stp.fresh {p : Addr} {u : HO} (h : H p = none) : Stp o r σ H w r σ (upd H p u) w := by
  have sb : Sub H (upd H p u) := sub_new h
  exact ⟨rfl, rfl, Sub.refl _, fun _ z => .inl z, fun a x e n _ => sb a x e n, fun a z => upd_some z, fun _ _ z => .inr (.inr z), fun _ _ => ⟨rfl, rfl⟩, fun _ _ => rfl, fun a φ e => sb a _ e (fun ps z => by cases z)⟩
theorem Quiet.fresh {p : Addr} {u : HO} (h : H p = none) : Quiet r H w r (upd H p u) w := ⟨rfl, rfl, fun a x e n => sub_new h a x e n⟩
/-- a new object, frozen -/
abbrev Wd.add (w : Wd) (p : Addr) (u : HO) : Wd := ⟨upd w.G p u, w.fp⟩
theorem SR.gnone {p : Addr} (s : SR K T o r σ H w) (h : H p = none) : w.G p = none := by
  cases e : w.G p with
  | none => rfl
  | some x => rw [s.sub _ _ e (fun ps z => s.gtab p ps (by rw [e, z]))] at h; cases h
theorem SR.alloc {p : Addr} {u : HO} (s : SR K T o r σ H w) (h : H p = none) (nt : ∀ ps, u ≠ .tbl ps) : SR K T o r σ (upd H p u) (w.add p u) := by
  have hG : w.G p = none := s.gnone h
  have sb : Sub H (upd H p u) := sub_new h
  have sg : Sub w.G (upd w.G p u) := sub_new hG
  refine ⟨fun a x e n => ?_, fun a ps e => ?_, fun i d e => ?_, fun i a ha => ?_, fun i a ha => ?_, s.dis, s.nd, fun i a ps ha => ?_, tabs_upd h s.tab, s.len⟩
  · show upd H p u a = some x
    have e' : upd w.G p u a = some x := e
    by_cases hp : a = p
    · rw [hp, upd_same] at e' ⊢; exact e'
    · rw [upd_ne hp] at e' ⊢; exact s.sub _ _ e' n
  · have e' : upd w.G p u a = some (.tbl ps) := e
    by_cases hp : a = p
    · rw [hp, upd_same] at e'
      exact nt ps (Option.some.inj e')
    · rw [upd_ne hp] at e'
      exact s.gtab a ps e'
  · obtain ⟨v, e1, e2⟩ := s.val i d e
    refine ⟨v, e1, ?_⟩
    split at e2
    · rename_i hm; rw [if_pos hm]; exact Rep.mono sg _ _ e2
    · rename_i hm
      rw [if_neg hm]
      exact MRep.keep sg _ _ _ e2 fun a ha => upd_ne fun z => s.live i a ha (by rw [z]; exact h)
  · show upd w.G p u a = none
    rw [upd_ne (fun z => s.live i a ha (by rw [z]; exact h))]
    exact s.off i a ha
  · have n := s.live i a ha
    rw [upd_ne (fun z => n (by rw [z]; exact h))]
    exact n
  · have n := s.live i a ha
    rw [upd_ne (fun z => n (by rw [z]; exact h))]
    exact s.ntab i a ps ha
theorem Stp.alloc {p : Addr} {u : HO} (h : H p = none) (hG : w.G p = none) : Stp o r σ H w r σ (upd H p u) (w.add p u) := by
  have sb : Sub H (upd H p u) := sub_new h
  refine ⟨rfl, rfl, sub_new hG, fun a z => ?_, fun a x e n _ => sb a x e n, fun a z => upd_some z, fun _ _ z => .inr (.inr z), fun _ _ => ⟨rfl, rfl⟩, fun _ _ => rfl, fun a φ e => sb a _ e (fun ps z => by cases z)⟩
  · by_cases hp : a = p
    · rw [hp]; exact .inr (.inl h)
    · have z' : upd w.G p u a ≠ none := z
      rw [upd_ne hp] at z'; exact .inl z'
theorem Quiet.alloc {p : Addr} {u : HO} (h : H p = none) : Quiet r H w r (upd H p u) (w.add p u) := ⟨rfl, rfl, fun a x e n => sub_new h a x e n⟩
end
/-! ### expressions -/
def fVar (i : Nat) : M D := fun r => match r[i]? with
  | some (some d) => .ok d r
  | _ => .stk
def fC (d : D) : M D := fun r => .ok d r
section
variable {X : Cx} {T : Tb} {o : Modes} {q qa qb : Bool} {k : Kd} {e a b : Expr} {pos : Pos} {fa fb : M D}
theorem de_var {i : Nat} {x : Str} (hm : mode o i = 0 := by rfl) (hN : X.N[i]? = some x := by rfl) (hv : Vis X.env.scope x := by first | exact Or.inl rfl | exact Or.inr (Or.inl rfl) | exact Or.inr (Or.inr rfl)) (hd : (x == ("__debug__" : Str)) = false := by decide)
    (hcd : (x == ("__classdict__" : Str)) = false := by decide) : DE X T o true .S (.Name x pos) (fVar i) := ⟨fun W _ => ⟨tVar i, pe_var hN hv hd hcd, fun r σ H w Q s g => by
  unfold fVar at g
  split at g
  · rename_i d e
    obtain ⟨v, e1, e2⟩ := s.val i d e
    rw [if_pos hm] at e2
    exact ⟨v, e1, g.end s e2⟩
  · exact g.elim⟩⟩
theorem de_int {i : Int} {j : Nat} : DE X T o true .S (.Constant (.int i) j pos) (fC (.int i)) := ⟨fun W _ => ⟨_, pe_int, fun r σ H w Q s g => g.end s rfl⟩⟩
theorem de_bl {i : Bool} {j : Nat} : DE X T o true .S (.Constant (.bool i) j pos) (fC (.bl i)) := ⟨fun W _ => ⟨_, pe_bl, fun r σ H w Q s g => g.end s rfl⟩⟩
theorem de_non {j : Nat} : DE X T o true .S (.Constant .none j pos) (fC .non) := ⟨fun W _ => ⟨_, pe_non, fun r σ H w Q s g => g.end s rfl⟩⟩
theorem de_str {x : Str} {l : List Nat} {j : Nat} (h : x.cps.toList = l := by decide +kernel) : DE X T o true .S (.Constant (.str x) j pos) (fC (.str l)) := ⟨fun W _ => ⟨_, pe_str, fun r σ H w Q s g => g.end s (by
  show V.str x = V.str ⟨l.toArray⟩
  rw [← h])⟩⟩
end
/-- what an operand is still, behind what followed -/
theorem Val.keep {K : PySem.W.Frag} {T : Tb} {o : Modes} {k : Kd} {r1 r2 : Rho} {σ1 σ2 : L2.St} {H H1 H2 : Hp} {w1 w2 : Wd} {d : D} {v : V} (hs : Stp o r1 σ1 H1 w1 r2 σ2 H2 w2) (hq : k = .S ∨ Quiet r1 H1 w1 r2 H2 w2) (x : Val K T k H w1 H1 d v) : Val K T k H w2 H2 d v := by
  have sub : k ≠ .S → Sub H1 H2 := fun n => by
    rcases hq with e | q
    · exact absurd e n
    · exact q.keep
  cases k with
  | S => exact Rep.mono hs.grow _ _ x
  | R => exact Rep.mono (sub (by simp)) _ _ x
  | C =>
    obtain ⟨a, vs, ds, e1, e2, l, i⟩ := x
    exact ⟨a, vs, ds, e1, e2, sub (by simp) _ _ l (fun ps z => by cases z), RepL.mono hs.grow _ _ i⟩
  | F =>
    obtain ⟨fp, m, n, z⟩ := x
    have lv := m.live
    have nmu : ∀ a ∈ fp, ¬ Mu o w1 a := fun a ha ⟨i, _, hi⟩ => (z a ha).2.2.1 i hi
    have same : ∀ a ∈ fp, H2 a = H1 a := fun a ha => by
      cases e : H1 a with
      | none => exact absurd e (lv a ha)
      | some u => exact hs.keep a u e (fun ps q => (z a ha).2.2.2 ps (by rw [e, q])) (nmu a ha)
    refine ⟨fp, MRep.keep hs.grow _ _ _ m same, n, fun a ha => ⟨(z a ha).1, ?_, fun i hi => ?_, fun ps => by rw [same a ha]; exact (z a ha).2.2.2 ps⟩⟩
    · cases e : w2.G a with
      | none => rfl
      | some u =>
        rcases hs.newG a (by rw [e]; simp) with h | h | h
        · exact absurd (z a ha).2.1 h
        · exact absurd h (lv a ha)
        · exact absurd h.mu (nmu a ha)
    · rcases hs.fps i a hi with h | h | h
      · exact lv a ha h
      · exact nmu a ha h.mu
      · exact (z a ha).2.2.1 i h
/-- what is S or C or F or R is R -/
theorem Val.rd {K : PySem.W.Frag} {T : Tb} {o : Modes} {k : Kd} {r : Rho} {σ : L2.St} {H H1 : Hp} {w : Wd} {d : D} {v : V} (s : SR K T o r σ H1 w) (x : Val K T k H w H1 d v) (n : k = .F → noObj d = true) : Rep K H1 d v := by
  cases k with
  | S => exact Rep.mono s.sub _ _ x
  | R => exact x
  | C =>
    obtain ⟨a, vs, ds, rfl, rfl, l, i⟩ := x
    exact ⟨a, vs, rfl, l, RepL.mono s.sub _ _ i⟩
  | F =>
    obtain ⟨fp, m, _, z⟩ := x
    exact MRep.rep s.sub _ _ _ m (fun _ _ => rfl) (n rfl)
/-- an operator on values -/
def OpG (X : Cx) (T : Tb) (o : Modes) (k1 k2 kz : Kd) (rr : R2) (g : D → D → Option D) : Prop :=
  ∀ (r : Rho) (σ : L2.St) (H H0 : Hp) (w : Wd) (dx dy dz : D) (x y : V) (Q : VK), SR X.K T o r σ H w → (∀ a, H a = none → H0 a = none) → Val X.K T k1 H0 w H dx x → Val X.K T k2 H0 w H dy y → g dx dy = some dz →
    (∀ z H' w', SR X.K T o r σ H' w' → Stp o r σ H w r σ H' w' → Quiet r H w r H' w' → Val X.K T kz H w' H' dz z → Q z H') → rr x y H Q
def m2 (g : D → D → Option D) (fa fb : M D) : M D := bnd fa fun x => bnd fb fun y => lif (g x y)
/-- the first operand stands while the second is reckoned -/
def okq (k : Kd) (q : Bool) : Bool := (match k with | .S => true | .F => true | _ => false) || q
theorem Val.keepq {K : PySem.W.Frag} {T : Tb} {o : Modes} {k : Kd} {q : Bool} {r1 r2 : Rho} {σ1 σ2 : L2.St} {H H1 H2 : Hp} {w1 w2 : Wd} {d : D} {v : V} (hk : okq k q = true) (hs : Stp o r1 σ1 H1 w1 r2 σ2 H2 w2) (hq : q = true → Quiet r1 H1 w1 r2 H2 w2) (x : Val K T k H w1 H1 d v) : Val K T k H w2 H2 d v := by
  cases k with
  | S => exact x.keep hs (.inl rfl)
  | F =>
    obtain ⟨fp, m, n, z⟩ := x
    have lv := m.live
    have nmu : ∀ a ∈ fp, ¬ Mu o w1 a := fun a ha ⟨i, _, hi⟩ => (z a ha).2.2.1 i hi
    have same : ∀ a ∈ fp, H2 a = H1 a := fun a ha => by
      cases e : H1 a with
      | none => exact absurd e (lv a ha)
      | some u => exact hs.keep a u e (fun ps q => (z a ha).2.2.2 ps (by rw [e, q])) (nmu a ha)
    refine ⟨fp, MRep.keep hs.grow _ _ _ m same, n, fun a ha => ⟨(z a ha).1, ?_, fun i hi => ?_, fun ps => by rw [same a ha]; exact (z a ha).2.2.2 ps⟩⟩
    · cases e : w2.G a with
      | none => rfl
      | some u =>
        rcases hs.newG a (by rw [e]; simp) with h | h | h
        · exact absurd (z a ha).2.1 h
        · exact absurd h (lv a ha)
        · exact absurd h.mu (nmu a ha)
    · rcases hs.fps i a hi with h | h | h
      · exact lv a ha h
      · exact nmu a ha h.mu
      · exact (z a ha).2.2.1 i h
  | C =>
    have e : q = true := by simpa [okq] using hk
    exact x.keep hs (.inr (hq e))
  | R =>
    have e : q = true := by simpa [okq] using hk
    exact x.keep hs (.inr (hq e))
section
variable {X : Cx} {T : Tb} {o : Modes} {q qa qb : Bool} {k k1 k2 kz : Kd} {e a b : Expr} {pos : Pos} {fa fb : M D}
theorem de_bin_core {rr : R2} {g : D → D → Option D} (hr : OpG X T o k1 k2 kz rr g) (hk : okq k1 qb = true) {ta tb : TE} {W : WX}
    (ga : ∀ r σ H w Q, SR X.K T o r σ H w → Gd X.K T o qa (Val X.K T k1) W r σ H w (fa r) Q → ta σ H Q) (gb : ∀ r σ H w Q, SR X.K T o r σ H w → Gd X.K T o qb (Val X.K T k2) W r σ H w (fb r) Q → tb σ H Q) :
    ∀ r σ H w Q, SR X.K T o r σ H w → Gd X.K T o (qa && qb) (Val X.K T kz) W r σ H w (m2 g fa fb r) Q → tOp rr ta tb σ H Q := by
  intro r σ H w Q s h
  refine ga r σ H w _ s (Gd.fst Val.back h (q1 := qa) (q2 := qb) (by simp) fun dx r1 x H1 w1 _ s1 t1 q1 vx h1 => ?_)
  refine gb r1 σ H1 w1 _ s1 (Gd.fst Val.back h1 (q1 := qb) (q2 := true) (fun z => ⟨z, rfl⟩) fun dy r2 y H2 w2 _ s2 t2 q2 vy h2 => ?_)
  obtain ⟨dz, e, h3⟩ := h2.lif
  refine hr r2 σ H2 H w2 dx dy dz x y Q s2 (fun a z => back_of t1 (back_of t2 z)) (vx.keepq hk t2 q2) (Val.back _ _ _ _ _ _ (fun a => back_of t1) vy) e fun z H' w' s3 t3 q3 v3 => ?_
  exact h3 z H' w' s3 t3 (fun _ => q3) v3
theorem de_op {op : Operator} {rr : R2} {g : D → D → Option D} (ho : OpR X (binaryOp op) rr) (hr : OpG X T o k1 k2 kz rr g) (ha : DE X T o qa k1 a fa) (hb : DE X T o qb k2 b fb) (hk : okq k1 qb = true := by rfl) : DE X T o (qa && qb) kz (.BinOp a op b pos) (m2 g fa fb) := ⟨fun W tk => by
  obtain ⟨ta, pa, ga⟩ := ha.run W tk
  obtain ⟨tb, pb, gb⟩ := hb.run W tk
  exact ⟨_, pe_op ho pa pb, de_bin_core hr hk ga gb⟩⟩
theorem de_cmp {op : CmpOp} {rr : R2} {g : D → D → Option D} (ho : OpR X (compareOp op) rr) (hr : OpG X T o k1 k2 kz rr g) (ha : DE X T o qa k1 a fa) (hb : DE X T o qb k2 b fb) (hk : okq k1 qb = true := by rfl) (hm : behindInMarks op b = false := by first | exact nomark _ | rfl) :
    DE X T o (qa && qb) kz (.Compare a [op] [b] pos) (m2 g fa fb) := ⟨fun W tk => by
  obtain ⟨ta, pa, ga⟩ := ha.run W tk
  obtain ⟨tb, pb, gb⟩ := hb.run W tk
  exact ⟨_, pe_cmpR ho pa pb hm, de_bin_core hr hk ga gb⟩⟩
end
end Mir

set_option Elab.async false
set_option linter.all false
set_option maxRecDepth 100000
set_option maxHeartbeats 1000000
namespace Mir
open PySem L2
/-! ### values of lists and scalars -/
def leafy : D → Bool
  | .non => true | .bl _ => true | .int _ => true | .str _ => true | .tup _ => true | _ => false
def fitK (k : Kd) (ds : List D) : Bool := match k with
  | .F => ds.all leafy
  | _ => true
def lim (n : Nat) : Bool := decide (n ≤ 100000)
theorem lim_sz {n : Nat} (h : lim n = true) : n ≤ sizeLine := Nat.le_trans (of_decide_eq_true h) (by decide)
section
variable {K : PySem.W.Frag} {T : Tb} {G H : Hp}
theorem leafy_m {d : D} {v : V} (h : leafy d = true) (r : Rep K G d v) : MRep K T G H d v [] := by
  cases d with
  | non => exact ⟨r, rfl⟩
  | bl b => exact ⟨r, rfl⟩
  | int i => exact ⟨r, rfl⟩
  | str s => exact ⟨r, rfl⟩
  | tup xs => exact ⟨r, rfl⟩
  | lst xs => simp [leafy] at h
  | dct a b => simp [leafy] at h
  | obj a b => simp [leafy] at h
  | fn k => simp [leafy] at h
  | scr k => simp [leafy] at h
theorem leafyL_m : ∀ (ds : List D) (vs : List V), ds.all leafy = true → RepL K G ds vs → MRepL K T G H ds vs []
  | [], _, _, r => ⟨r, rfl⟩
  | d :: ds, _, h, r => by
    obtain ⟨v, vs, e, r1, r2⟩ := r
    simp only [List.all_cons, Bool.and_eq_true] at h
    exact ⟨v, vs, [], [], e, leafy_m h.1 r1, leafyL_m ds vs h.2 r2, rfl⟩
theorem m_leafy {d : D} {v : V} {fp : List Addr} (h : leafy d = true) (r : MRep K T G H d v fp) : Rep K G d v ∧ fp = [] := by
  cases d with
  | non => exact r
  | bl b => exact r
  | int i => exact r
  | str s => exact r
  | tup xs => exact r
  | lst xs => simp [leafy] at h
  | dct a b => simp [leafy] at h
  | obj a b => simp [leafy] at h
  | fn k => simp [leafy] at h
  | scr k => simp [leafy] at h
theorem m_leafyL : ∀ (ds : List D) (vs : List V) (fp : List Addr), ds.all leafy = true → MRepL K T G H ds vs fp → RepL K G ds vs ∧ fp = []
  | [], _, _, _, r => r
  | d :: ds, _, _, h, r => by
    obtain ⟨v, vs, f1, f2, e, r1, r2, rfl⟩ := r
    simp only [List.all_cons, Bool.and_eq_true] at h
    obtain ⟨a1, rfl⟩ := m_leafy h.1 r1
    obtain ⟨a2, rfl⟩ := m_leafyL ds vs f2 h.2 r2
    exact ⟨⟨v, vs, e, a1, a2⟩, rfl⟩
theorem RepL.length : ∀ {ds : List D} {vs : List V}, RepL K G ds vs → ds.length = vs.length
  | [], _, r => by rw [show _ = _ from r] <;> rfl
  | d :: ds, _, r => by
    obtain ⟨v, vs, rfl, _, r2⟩ := r
    rw [List.length_cons, List.length_cons, r2.length]
theorem RepL.append : ∀ {ds es : List D} {vs us : List V}, RepL K G ds vs → RepL K G es us → RepL K G (ds ++ es) (vs ++ us)
  | [], _, _, _, r, r' => by rw [show _ = _ from r]; exact r'
  | d :: ds, _, _, _, r, r' => by
    obtain ⟨v, vs, rfl, r1, r2⟩ := r
    exact ⟨v, _, rfl, r1, r2.append r'⟩
theorem RepL.get : ∀ {ds : List D} {vs : List V} {i : Nat} {v : V}, RepL K G ds vs → vs[i]? = some v → ∃ d, ds[i]? = some d ∧ Rep K G d v
  | [], _, _, _, r, e => by rw [show _ = _ from r] at e; simp at e
  | d :: ds, _, 0, _, r, e => by
    obtain ⟨v, vs, rfl, r1, r2⟩ := r
    simp only [List.getElem?_cons_zero, Option.some.injEq] at e
    subst e
    exact ⟨d, rfl, r1⟩
  | d :: ds, _, i + 1, _, r, e => by
    obtain ⟨v, vs, rfl, r1, r2⟩ := r
    simp only [List.getElem?_cons_succ] at e ⊢
    exact r2.get e
theorem RepL.getD : ∀ {ds : List D} {vs : List V} {i : Nat} {d : D}, RepL K G ds vs → ds[i]? = some d → ∃ v, vs[i]? = some v ∧ Rep K G d v
  | [], _, _, _, r, e => by simp at e
  | d :: ds, _, 0, _, r, e => by
    obtain ⟨v, vs, rfl, r1, r2⟩ := r
    simp only [List.getElem?_cons_zero, Option.some.injEq] at e
    subst e
    exact ⟨v, rfl, r1⟩
  | d :: ds, _, i + 1, _, r, e => by
    obtain ⟨v, vs, rfl, r1, r2⟩ := r
    simp only [List.getElem?_cons_succ] at e ⊢
    exact r2.getD e
theorem RepL.take : ∀ (n : Nat) {ds : List D} {vs : List V}, RepL K G ds vs → RepL K G (ds.take n) (vs.take n)
  | 0, _, _, _ => by simp [RepL]
  | n + 1, [], _, r => by rw [show _ = _ from r]; exact rfl
  | n + 1, d :: ds, _, r => by
    obtain ⟨v, vs, rfl, r1, r2⟩ := r
    exact ⟨v, _, rfl, r1, r2.take n⟩
theorem RepL.drop : ∀ (n : Nat) {ds : List D} {vs : List V}, RepL K G ds vs → RepL K G (ds.drop n) (vs.drop n)
  | 0, _, _, r => r
  | n + 1, [], _, r => by rw [show _ = _ from r]; exact rfl
  | n + 1, d :: ds, _, r => by
    obtain ⟨v, vs, rfl, r1, r2⟩ := r
    exact r2.drop n
theorem RepL.reverse : ∀ {ds : List D} {vs : List V}, RepL K G ds vs → RepL K G ds.reverse vs.reverse
  | [], _, r => by rw [show _ = _ from r]; exact rfl
  | d :: ds, _, r => by
    obtain ⟨v, vs, rfl, r1, r2⟩ := r
    rw [List.reverse_cons, List.reverse_cons]
    exact r2.reverse.append ⟨v, [], rfl, r1, rfl⟩
theorem RepL.flat : ∀ (n : Nat) {ds : List D} {vs : List V}, RepL K G ds vs → RepL K G (List.replicate n ds).flatten (List.replicate n vs).flatten
  | 0, _, _, _ => rfl
  | n + 1, _, _, r => by
    rw [List.replicate_succ, List.replicate_succ, List.flatten_cons, List.flatten_cons]
    exact r.append (r.flat n)
end
section
variable {X : Cx} {T : Tb} {o : Modes} {k : Kd} {r : Rho} {σ : L2.St} {H H0 : Hp} {w : Wd}
/-- a list with stable items -/
theorem Val.asC {ds : List D} {x : V} (s : SR X.K T o r σ H w) (v : Val X.K T k H0 w H (.lst ds) x) (hk : k = .S ∨ k = .C ∨ (k = .F ∧ ds.all leafy = true)) : ∃ a vs, x = .ref a ∧ H a = some (.lst vs) ∧ RepL X.K w.G ds vs := by
  rcases hk with rfl | rfl | ⟨rfl, hl⟩
  · obtain ⟨a, vs, rfl, e, l⟩ := v
    exact ⟨a, vs, rfl, s.sub _ _ e (fun ps z => by cases z), l⟩
  · obtain ⟨a, vs, es, rfl, e, l, i⟩ := v
    cases e
    exact ⟨a, vs, rfl, l, i⟩
  · obtain ⟨fp, m, _, _⟩ := v
    obtain ⟨a, vs, fps, rfl, e, l, _⟩ := m
    exact ⟨a, vs, rfl, e, (m_leafyL ds vs fps hl l).1⟩
/-- scalars and tuples of stable things are of every kind -/
theorem val_leafy {d : D} {v : V} (kz : Kd) (s : SR X.K T o r σ H w) (hl : leafy d = true) (hr : Rep X.K w.G d v) (hk : kz ≠ .C) : Val X.K T kz H0 w H d v := by
  cases kz with
  | S => exact hr
  | R => exact Rep.mono s.sub _ _ hr
  | C => exact absurd rfl hk
  | F => exact ⟨[], leafy_m hl hr, List.nodup_nil, fun _ h => by simp at h⟩
/-- a new list, stable or owned -/
theorem new_lst {ds : List D} {vs : List V} {p : Addr} {kz : Kd} {Q : VK} (s : SR X.K T o r σ H w) (hp : H p = none) (hr : RepL X.K w.G ds vs) (hk : kz = .S ∨ kz = .F) (hf : fitK kz ds = true)
    (h : ∀ z H' w', SR X.K T o r σ H' w' → Stp o r σ H w r σ H' w' → Quiet r H w r H' w' → Val X.K T kz H w' H' (.lst ds) z → Q z H') : Q (.ref p) (upd H p (.lst vs)) := by
  rcases hk with rfl | rfl
  · exact h _ _ _ (s.alloc hp (fun ps z => by cases z)) (Stp.alloc hp (s.gnone hp)) (Quiet.alloc hp) ⟨p, vs, rfl, upd_same, RepL.mono (sub_new (s.gnone hp)) _ _ hr⟩
  · refine h _ _ _ (s.fresh hp) (Stp.fresh hp) (Quiet.fresh hp) ⟨[p], ⟨p, vs, [], rfl, upd_same, leafyL_m _ _ hf hr, rfl⟩, by simp, fun a ha => ?_⟩
    rw [List.mem_singleton] at ha
    subst ha
    exact ⟨hp, s.gnone hp, fun i hi => s.live i _ hi hp, fun ps => by rw [upd_same]; simp⟩
theorem new_tup {ds : List D} {vs : List V} {p : Addr} {kz : Kd} {Q : VK} (s : SR X.K T o r σ H w) (hp : H p = none) (hr : RepL X.K w.G ds vs) (hk : kz ≠ .C)
    (h : ∀ z H' w', SR X.K T o r σ H' w' → Stp o r σ H w r σ H' w' → Quiet r H w r H' w' → Val X.K T kz H w' H' (.tup ds) z → Q z H') : Q (.ref p) (upd H p (.tup vs)) := by
  have s' := s.alloc (u := .tup vs) hp (fun ps z => by cases z)
  refine h _ _ _ s' (Stp.alloc hp (s.gnone hp)) (Quiet.alloc hp) (val_leafy kz s' rfl ⟨p, vs, rfl, .inl (.inl upd_same), RepL.mono (sub_new (s.gnone hp)) _ _ hr⟩ hk)
end

/-! ### arithmetic -/
def addD (kz : Kd) : D → D → Option D
  | .int i, .int j => some (.int (i + j))
  | .str s, .str t => if lim (s.length + t.length) then some (.str (s ++ t)) else none
  | .lst xs, .lst ys => if lim (xs.length + ys.length) && fitK kz (xs ++ ys) then some (.lst (xs ++ ys)) else none
  | .tup xs, .tup ys => if lim (xs.length + ys.length) then some (.tup (xs ++ ys)) else none
  | _, _ => none
def rAddD (K : PySem.W.Frag) : R2 := fun x y H Q => (∃ i j, x = .int i ∧ y = .int j ∧ Q (.int (i + j)) H) ∨ (∃ i j, x = .str i ∧ y = .str j ∧ i.length + j.length ≤ sizeLine ∧ Q (.str (i ++ j)) H) ∨ rCat x y H Q ∨ rCatA K x y H Q
theorem op_addD {X : Cx} : OpR X (binaryOp .Add) (rAddD X.K) := op_add.or (op_add_str.or (op_cat.or op_catA))
theorem str_app (s t : List Nat) : (⟨s.toArray⟩ : Str) ++ ⟨t.toArray⟩ = ⟨(s ++ t).toArray⟩ := by
  show Str.append _ _ = _
  simp [Str.append]
theorem str_len (s : List Nat) : (⟨s.toArray⟩ : Str).length = s.length := by simp [Str.length]
section
variable {X : Cx} {T : Tb} {o : Modes}
theorem not_dct {k : Kd} {H0 H : Hp} {w : Wd} {ds : List D} {x : V} (hk : k = .S ∨ k = .F ∨ k = .C) (h : Val X.K T k H0 w H (.lst ds) x) : k = .S ∨ k = .C ∨ k = .F := by
  rcases hk with h | h | h
  · exact .inl h
  · exact .inr (.inr h)
  · exact .inr (.inl h)
theorem og_add {kz : Kd} (hz : kz = .S ∨ kz = .F) : OpG X T o .S .S kz (rAddD X.K) (addD kz) := by
  intro r σ H H0 w dx dy dz x y Q s _ vx vy e k
  have hzc : kz ≠ .C := by rcases hz with rfl | rfl <;> simp
  unfold addD at e
  split at e
  · rename_i i j
    cases e
    exact .inl ⟨i, j, vx, vy, k _ _ _ s (Stp.refl _ _ _ _ _) (Quiet.refl _ _ _) (val_leafy kz s rfl rfl hzc)⟩
  · rename_i a b
    split at e
    · rename_i hl
      cases e
      refine .inr (.inl ⟨_, _, vx, vy, by rw [str_len, str_len]; exact lim_sz hl, k _ _ _ s (Stp.refl _ _ _ _ _) (Quiet.refl _ _ _) (val_leafy kz s rfl ?_ hzc)⟩)
      show V.str _ = V.str _
      rw [str_app]
    · cases e
  · rename_i xs ys
    split at e
    · rename_i hl
      cases e
      rw [Bool.and_eq_true] at hl
      obtain ⟨a, vs, rfl, h1, l1⟩ := Val.asC s vx (.inl rfl)
      obtain ⟨b, us, rfl, h2, l2⟩ := Val.asC s vy (.inl rfl)
      exact .inr (.inr (.inl ⟨a, b, vs, us, rfl, rfl, h1, h2, by rw [← l1.length, ← l2.length]; exact lim_sz hl.1, fun p hp => new_lst s hp (l1.append l2) hz hl.2 k⟩))
    · cases e
  · rename_i xs ys
    split at e
    · rename_i hl
      cases e
      obtain ⟨a, vs, rfl, h1, l1⟩ := vx
      obtain ⟨b, us, rfl, h2, l2⟩ := vy
      have l1' : RepL X.K w.G xs vs := l1
      have l2' : RepL X.K w.G ys us := l2
      have old : ∀ z, Rep X.K w.G (.tup (xs ++ ys)) z → Q z H := fun z hz' => k z H w s (Stp.refl _ _ _ _ _) (Quiet.refl _ _ _) (val_leafy kz s rfl hz' hzc)
      refine .inr (.inr (.inr ⟨a, b, vs, us, rfl, rfl, s.sub.t h1, s.sub.t h2, by rw [← l1'.length, ← l2'.length]; exact lim_sz hl, fun q => ?_, fun q1 q2 => ?_, fun q1 q2 p hp => new_tup s hp (l1'.append l2') hzc k⟩))
      · subst q
        have : xs = [] := List.length_eq_zero_iff.mp (by rw [l1'.length]; rfl)
        subst this
        exact old _ ⟨b, us, rfl, h2, l2'⟩
      · subst q2
        have : ys = [] := List.length_eq_zero_iff.mp (by rw [l2'.length]; rfl)
        subst this
        rw [List.append_nil] at old
        exact old _ ⟨a, vs, rfl, h1, l1'⟩
    · cases e
  · cases e
/-- lists, each readable with stable items -/
def catD (kz : Kd) : D → D → Option D
  | .lst xs, .lst ys => if lim (xs.length + ys.length) && fitK kz (xs ++ ys) && fitK .F xs && fitK .F ys then some (.lst (xs ++ ys)) else none
  | _, _ => none
theorem asC_any {k : Kd} {r : Rho} {σ : L2.St} {H H0 : Hp} {w : Wd} {ds : List D} {x : V} (s : SR X.K T o r σ H w) (hk : k ≠ .R) (hl : ds.all leafy = true) (v : Val X.K T k H0 w H (.lst ds) x) : ∃ a vs, x = .ref a ∧ H a = some (.lst vs) ∧ RepL X.K w.G ds vs := by
  cases k with
  | S => exact Val.asC s v (.inl rfl)
  | C => exact Val.asC s v (.inr (.inl rfl))
  | F => exact Val.asC s v (.inr (.inr ⟨rfl, hl⟩))
  | R => exact absurd rfl hk
theorem og_cat {k1 k2 kz : Kd} (hz : kz = .S ∨ kz = .F) (h1 : k1 ≠ .R) (h2 : k2 ≠ .R) : OpG X T o k1 k2 kz (rAddD X.K) (catD kz) := by
  intro r σ H H0 w dx dy dz x y Q s _ vx vy e k
  unfold catD at e
  split at e
  · rename_i xs ys
    split at e
    · rename_i hl
      cases e
      simp only [Bool.and_eq_true] at hl
      obtain ⟨⟨⟨hl, hf⟩, f1⟩, f2⟩ := hl
      obtain ⟨a, vs, rfl, h1, l1⟩ := asC_any s h1 f1 vx
      obtain ⟨b, us, rfl, h2, l2⟩ := asC_any s h2 f2 vy
      exact .inr (.inr (.inl ⟨a, b, vs, us, rfl, rfl, h1, h2, by rw [← l1.length, ← l2.length]; exact lim_sz hl, fun p hp => new_lst s hp (l1.append l2) hz hf k⟩))
    · cases e
  · cases e
/-- ints -/
def intD (c : Int → Int → Bool) (f : Int → Int → Int) : D → D → Option D
  | .int i, .int j => if c i j then some (.int (f i j)) else none
  | _, _ => none
theorem og_int {rr : R2} {kz : Kd} {c : Int → Int → Bool} {f : Int → Int → Int} (hz : kz ≠ .C) (h : ∀ i j H Q, c i j = true → Q (.int (f i j)) H → rr (.int i) (.int j) H Q) : OpG X T o .S .S kz rr (intD c f) := by
  intro r σ H H0 w dx dy dz x y Q s _ vx vy e k
  unfold intD at e
  split at e
  · rename_i i j
    split at e
    · rename_i hc
      cases e
      have e1 : x = .int i := vx
      have e2 : y = .int j := vy
      rw [e1, e2]
      exact h i j H Q hc (k _ _ _ s (Stp.refl _ _ _ _ _) (Quiet.refl _ _ _) (val_leafy kz s rfl rfl hz))
    · cases e
  · cases e
def subD := intD (fun _ _ => true) (fun i j => i - j)
def fdvD := intD (fun _ j => decide (0 < j ∧ j < 1073741824)) (fun i j => i / j)
def modD := intD (fun _ j => decide (0 < j)) (fun i j => i % j)
def powD := intD (fun i j => decide (0 ≤ j ∧ j ≤ 1000 ∧ i.natAbs < 1000000)) (fun i j => i ^ j.toNat)
theorem og_sub : OpG X T o .S .S .S (rI0 fun i j => .int (i - j)) subD := og_int (by simp) fun i j H Q _ q => ⟨i, j, rfl, rfl, q⟩
theorem og_fdv : OpG X T o .S .S .S (rI CDiv fun i j => .int (i / j)) fdvD := og_int (by simp) fun i j H Q c q => ⟨i, j, rfl, rfl, of_decide_eq_true (p := 0 < j ∧ j < 1073741824) c, q⟩
theorem og_mod : OpG X T o .S .S .S (rI (fun _ j => 0 < j) fun i j => .int (i % j)) modD := og_int (by simp) fun i j H Q c q => ⟨i, j, rfl, rfl, of_decide_eq_true c, q⟩
theorem og_pow : OpG X T o .S .S .S (rI CPow fun i j => .int (i ^ j.toNat)) powD := og_int (by simp) fun i j H Q c q => by
  have c' := of_decide_eq_true c
  exact ⟨i, j, rfl, rfl, ⟨c'.1, by omega, by have := c'.2.2; omega⟩, q⟩
/-- comparisons of ints; of texts -/
def cmpD (f : Int → Int → Bool) (g : List Nat → List Nat → Bool) : D → D → Option D
  | .int i, .int j => some (.bl (f i j))
  | .str i, .str j => some (.bl (g i j))
  | _, _ => none
theorem og_cmpS {rr rs : R2} {f : Int → Int → Bool} {g : List Nat → List Nat → Bool} (h : ∀ i j H Q, Q (.bl (f i j)) H → rr (.int i) (.int j) H Q) (h' : ∀ i j H Q, Q (.bl (g i j)) H → rs (.str ⟨i.toArray⟩) (.str ⟨j.toArray⟩) H Q) :
    OpG X T o .S .S .S (fun x y H Q => rr x y H Q ∨ rs x y H Q) (cmpD f g) := by
  intro r σ H H0 w dx dy dz x y Q s _ vx vy e k
  unfold cmpD at e
  split at e
  · rename_i i j
    cases e
    have e1 : x = .int i := vx
    have e2 : y = .int j := vy
    rw [e1, e2]
    exact .inl (h i j H Q (k _ _ _ s (Stp.refl _ _ _ _ _) (Quiet.refl _ _ _) rfl))
  · rename_i i j
    cases e
    have e1 : x = .str ⟨i.toArray⟩ := vx
    have e2 : y = .str ⟨j.toArray⟩ := vy
    rw [e1, e2]
    exact .inr (h' i j H Q (k _ _ _ s (Stp.refl _ _ _ _ _) (Quiet.refl _ _ _) rfl))
  · cases e
def ltL (i j : List Nat) : Bool := decide (i < j)
abbrev ltD := cmpD (fun i j => decide (i < j)) (fun i j => decide (i < j))
abbrev leD := cmpD (fun i j => decide (i ≤ j)) (fun i j => !decide (j < i))
abbrev gtD := cmpD (fun i j => decide (j < i)) (fun i j => decide (j < i))
abbrev geD := cmpD (fun i j => decide (j ≤ i)) (fun i j => !decide (i < j))
def rLtD : R2 := fun x y H Q => (rI0 fun i j => .bl (decide (i < j))) x y H Q ∨ (∃ i j : Str, x = .str i ∧ y = .str j ∧ Q (.bl (decide (i.cps.toList < j.cps.toList))) H)
theorem orD_lt : OpR X (compareOp .Lt) rLtD := op_lt.or op_lt_str
theorem og_lt : OpG X T o .S .S .S rLtD ltD := og_cmpS (fun i j H Q q => ⟨i, j, rfl, rfl, q⟩) (fun i j H Q q => ⟨_, _, rfl, rfl, q⟩)
def rLeD : R2 := fun x y H Q => (rI0 fun i j => .bl (decide (i ≤ j))) x y H Q ∨ (∃ i j : Str, x = .str i ∧ y = .str j ∧ Q (.bl (!decide (j.cps.toList < i.cps.toList))) H)
theorem orD_le : OpR X (compareOp .LtE) rLeD := op_le.or op_le_str
theorem og_le : OpG X T o .S .S .S rLeD leD := og_cmpS (fun i j H Q q => ⟨i, j, rfl, rfl, q⟩) (fun i j H Q q => ⟨_, _, rfl, rfl, q⟩)
def rGtD : R2 := fun x y H Q => (rI0 fun i j => .bl (decide (j < i))) x y H Q ∨ (∃ i j : Str, x = .str i ∧ y = .str j ∧ Q (.bl (decide (j.cps.toList < i.cps.toList))) H)
theorem orD_gt : OpR X (compareOp .Gt) rGtD := op_gt.or op_gt_str
theorem og_gt : OpG X T o .S .S .S rGtD gtD := og_cmpS (fun i j H Q q => ⟨i, j, rfl, rfl, q⟩) (fun i j H Q q => ⟨_, _, rfl, rfl, q⟩)
def rGeD : R2 := fun x y H Q => (rI0 fun i j => .bl (decide (j ≤ i))) x y H Q ∨ (∃ i j : Str, x = .str i ∧ y = .str j ∧ Q (.bl (!decide (i.cps.toList < j.cps.toList))) H)
theorem orD_ge : OpR X (compareOp .GtE) rGeD := op_ge.or op_ge_str
theorem og_ge : OpG X T o .S .S .S rGeD geD := og_cmpS (fun i j H Q q => ⟨i, j, rfl, rfl, q⟩) (fun i j H Q q => ⟨_, _, rfl, rfl, q⟩)
end

/-! ### equality -/
mutual
def toPy : D → PyData
  | .non => .none
  | .bl b => .bool b
  | .int i => .int i
  | .str s => .str ⟨s.toArray⟩
  | .lst xs => .list (toPyL xs)
  | .tup xs => .tuple (toPyL xs)
  | _ => .dict []
def toPyL : List D → List PyData
  | [] => []
  | d :: ds => toPy d :: toPyL ds
end
mutual
def eqb : D → D → Bool
  | .non, y => match y with | .non => true | _ => false
  | .bl a, y => match y with | .bl b => a == b | .int j => (if a then 1 else 0) == j | _ => false
  | .int i, y => match y with | .bl b => i == (if b then 1 else 0) | .int j => decide (i = j) | _ => false
  | .str s, y => match y with | .str t => decide (s = t) | _ => false
  | .lst xs, y => match y with | .lst ys => eqbL xs ys | _ => false
  | .tup xs, y => match y with | .tup ys => eqbL xs ys | _ => false
  | _, _ => false
def eqbL : List D → List D → Bool
  | [], ys => match ys with | [] => true | _ => false
  | x :: xs, ys => match ys with | y :: ys => eqb x y && eqbL xs ys | [] => false
end
def okS (s : List Nat) : Bool := s.all fun c => decide (c < 1114112)
/-! what may be compared at any depth; n bounds the depth -/
mutual
def okD : Nat → D → Bool
  | _, .non => true | _, .bl _ => true | _, .int _ => true
  | _, .str s => okS s
  | 0, _ => false
  | n + 1, .lst xs => okDL n xs
  | n + 1, .tup xs => okDL n xs
  | _, _ => false
def okDL : Nat → List D → Bool
  | _, [] => true
  | n, d :: ds => okD n d && okDL n ds
end
theorem ofArr (s t : List Nat) : ((⟨s.toArray⟩ : Str) == ⟨t.toArray⟩) = decide (s = t) := by
  by_cases e : s = t
  · subst e; simp
  · rw [decide_eq_false e]
    refine beq_eq_false_iff_ne.mpr fun z => e ?_
    have z' := congrArg (fun x : Str => x.cps.toList) z
    simpa using z'
mutual
theorem eqv_eqb : ∀ (x y : D), PyData.eqv (toPy x) (toPy y) = eqb x y
  | .non, y => by cases y <;> simp [toPy, PyData.eqv, eqb]
  | .bl a, y => by cases y <;> simp [toPy, PyData.eqv, eqb]
  | .int i, y => by cases y <;> simp [toPy, PyData.eqv, eqb, Bool.beq_eq_decide_eq]
  | .str s, y => by
    cases y with
    | str t => simp only [toPy, PyData.eqv, eqb]; exact ofArr s t
    | _ => simp [toPy, PyData.eqv, eqb]
  | .lst xs, y => by
    cases y with
    | lst ys => simp only [toPy, PyData.eqv, eqb]; exact eqv_eqbL xs ys
    | _ => simp [toPy, PyData.eqv, eqb]
  | .tup xs, y => by
    cases y with
    | tup ys => simp only [toPy, PyData.eqv, eqb]; exact eqv_eqbL xs ys
    | _ => simp [toPy, PyData.eqv, eqb]
  | .dct a b, y => by cases y <;> simp [toPy, PyData.eqv, eqb]
  | .obj a b, y => by cases y <;> simp [toPy, PyData.eqv, eqb]
  | .fn a, y => by cases y <;> simp [toPy, PyData.eqv, eqb]
  | .scr a, y => by cases y <;> simp [toPy, PyData.eqv, eqb]
theorem eqv_eqbL : ∀ (xs ys : List D), PyData.eqvAll (toPyL xs) (toPyL ys) = eqbL xs ys
  | [], ys => by cases ys <;> simp [toPyL, PyData.eqvAll, eqbL]
  | x :: xs, ys => by
    cases ys with
    | nil => simp [toPyL, PyData.eqvAll, eqbL]
    | cons y ys => simp only [toPyL, PyData.eqvAll, eqbL]; rw [eqv_eqb x y, eqv_eqbL xs ys]
end
mutual
theorem okD_lay : ∀ (n : Nat) (d : D), okD n d = true → (toPy d).canLay0 = true ∧ (toPy d).depth ≤ n
  | n, .non, _ => by simp [toPy, PyData.canLay0, PyData.depth]
  | n, .bl _, _ => by simp [toPy, PyData.canLay0, PyData.depth]
  | n, .int _, _ => by simp [toPy, PyData.canLay0, PyData.depth]
  | n, .str s, h => by
    refine ⟨?_, by simp [toPy, PyData.depth]⟩
    simp only [toPy, PyData.canLay0]
    have h0 : okS s = true := by cases n <;> simpa [okD] using h
    have h' : s.all (fun c => decide (c < 1114112)) = true := h0
    show ((⟨s.toArray⟩ : Str).cps.all fun c => decide (c < 0x110000)) = true
    simpa using h'
  | 0, .lst _, h => by simp [okD] at h
  | 0, .tup _, h => by simp [okD] at h
  | n + 1, .lst xs, h => by
    have q := okD_layL n xs (by simpa [okD] using h)
    refine ⟨by simpa [toPy, PyData.canLay0] using q.1, ?_⟩
    simp only [toPy, PyData.depth]
    omega
  | n + 1, .tup xs, h => by
    have q := okD_layL n xs (by simpa [okD] using h)
    refine ⟨by simpa [toPy, PyData.canLay0] using q.1, ?_⟩
    simp only [toPy, PyData.depth]
    omega
  | n, .dct _ _, h => by cases n <;> simp [okD] at h
  | n, .obj _ _, h => by cases n <;> simp [okD] at h
  | n, .fn _, h => by cases n <;> simp [okD] at h
  | n, .scr _, h => by cases n <;> simp [okD] at h
theorem okD_layL : ∀ (n : Nat) (ds : List D), okDL n ds = true → PyData.canLayAll0 (toPyL ds) = true ∧ PyData.depthAll (toPyL ds) ≤ n
  | n, [], _ => by simp [toPyL, PyData.canLayAll0, PyData.depthAll]
  | n, d :: ds, h => by
    simp only [okDL, Bool.and_eq_true] at h
    have a := okD_lay n d h.1
    have b := okD_layL n ds h.2
    simp only [toPyL, PyData.canLayAll0, PyData.depthAll, Bool.and_eq_true]
    exact ⟨⟨a.1, b.1⟩, by omega⟩
end
theorem okD_shaped {d : D} (h : okD 60 d = true) : SeqAt.shaped (toPy d) = true := by
  have q := okD_lay 60 d h
  unfold SeqAt.shaped
  rw [q.1, Bool.true_and]
  exact decide_eq_true (by omega)
section
variable {K : PySem.W.Frag} {H : Hp}
mutual
theorem rep_dp : ∀ (n : Nat) (d : D) (v : V), okD n d = true → Rep K H d v → Dp K H v (toPy d)
  | n, .non, v, _, r => by rw [show v = _ from r]; exact .non
  | n, .bl b, v, _, r => by rw [show v = _ from r]; exact .bl b
  | n, .int i, v, _, r => by rw [show v = _ from r]; exact .int i
  | n, .str s, v, _, r => by rw [show v = _ from r]; exact .str _
  | 0, .lst _, _, h, _ => by simp [okD] at h
  | 0, .tup _, _, h, _ => by simp [okD] at h
  | n + 1, .lst xs, v, h, r => by
    obtain ⟨a, vs, rfl, e, l⟩ := r
    exact .lst (.inl (.inl e)) (rep_dpL n xs vs (by simpa [okD] using h) l)
  | n + 1, .tup xs, v, h, r => by
    obtain ⟨a, vs, rfl, e, l⟩ := r
    exact .tup e (rep_dpL n xs vs (by simpa [okD] using h) l)
  | n, .dct _ _, _, h, _ => by cases n <;> simp [okD] at h
  | n, .obj _ _, _, h, _ => by cases n <;> simp [okD] at h
  | n, .fn _, _, h, _ => by cases n <;> simp [okD] at h
  | n, .scr _, _, h, _ => by cases n <;> simp [okD] at h
theorem rep_dpL : ∀ (n : Nat) (ds : List D) (vs : List V), okDL n ds = true → RepL K H ds vs → DpAll K H vs (toPyL ds)
  | n, [], vs, _, r => by rw [show vs = _ from r]; exact .nil
  | n, d :: ds, vs, h, r => by
    obtain ⟨v, vs', rfl, r1, r2⟩ := r
    simp only [okDL, Bool.and_eq_true] at h
    exact .cons (rep_dp n d v h.1 r1) (rep_dpL n ds vs' h.2 r2)
end
end
/-- scalars -/
def scalD : D → Bool
  | .non => true | .bl _ => true | .int _ => true | .str _ => true | _ => false
def eqD (x y : D) : Option D := if okD 60 x && okD 60 y then some (.bl (eqb x y)) else none
def neD (x y : D) : Option D := if okD 60 x && okD 60 y then some (.bl (!eqb x y)) else none
section
variable {X : Cx} {T : Tb} {o : Modes} {k1 k2 : Kd}
theorem okD_noObj : ∀ (n : Nat) (d : D), okD n d = true → noObj d = true := by
  intro n d h
  cases d with
  | lst xs =>
    cases n with
    | zero => simp [okD] at h
    | succ n =>
      have h' : okDL n xs = true := by simpa [okD] using h
      simp only [noObj]
      clear h
      induction xs with
      | nil => rfl
      | cons d ds ih =>
        simp only [okDL, Bool.and_eq_true] at h'
        simp only [noObjL, Bool.and_eq_true]
        exact ⟨okD_noObj n d h'.1, ih h'.2⟩
  | obj a b => cases n <;> simp [okD] at h
  | dct a b => cases n <;> simp [okD] at h
  | _ => rfl
theorem og_eq : OpG X T o k1 k2 .S (rEqD X.K) eqD := by
  intro r σ H H0 w dx dy dz x y Q s _ vx vy e k
  unfold eqD at e
  split at e
  · rename_i hc
    cases e
    rw [Bool.and_eq_true] at hc
    refine ⟨toPy dx, toPy dy, rep_dp 60 dx x hc.1 (vx.rd s fun _ => okD_noObj 60 dx hc.1), rep_dp 60 dy y hc.2 (vy.rd s fun _ => okD_noObj 60 dy hc.2), okD_shaped hc.1, okD_shaped hc.2, ?_⟩
    rw [eqv_eqb]
    exact k _ _ _ s (Stp.refl _ _ _ _ _) (Quiet.refl _ _ _) rfl
  · cases e
theorem og_ne : OpG X T o k1 k2 .S (rNeD X.K) neD := by
  intro r σ H H0 w dx dy dz x y Q s _ vx vy e k
  unfold neD at e
  split at e
  · rename_i hc
    cases e
    rw [Bool.and_eq_true] at hc
    refine ⟨toPy dx, toPy dy, rep_dp 60 dx x hc.1 (vx.rd s fun _ => okD_noObj 60 dx hc.1), rep_dp 60 dy y hc.2 (vy.rd s fun _ => okD_noObj 60 dy hc.2), okD_shaped hc.1, okD_shaped hc.2, ?_⟩
    rw [eqv_eqb]
    exact k _ _ _ s (Stp.refl _ _ _ _ _) (Quiet.refl _ _ _) rfl
  · cases e
end
end Mir

set_option Elab.async false
set_option linter.all false
set_option maxRecDepth 100000
set_option maxHeartbeats 1000000
namespace Mir
open PySem L2
section
variable {X : Cx} {T : Tb} {o : Modes} {q qa qb qc : Bool} {k k1 k2 kz : Kd} {e a b c : Expr} {es : List Expr} {pos : Pos} {f fa fb fc : M D} {fs : M (List D)}
/-! ### kinds -/
theorem de_sr (h : DE X T o q .S e f) : DE X T o q .R e f := ⟨fun W tk => by
  obtain ⟨t, p, g⟩ := h.run W tk
  refine ⟨t, p, fun r σ H w Q s x => g r σ H w Q s ?_⟩
  cases hx : f r with
  | stk => rw [hx] at x; exact x
  | ok d r1 =>
    rw [hx] at x
    exact fun v H' w' s1 t1 q1 v1 => x v H' w' s1 t1 q1 (Rep.mono s1.sub _ _ v1)
  | ex c r1 => rw [hx] at x; exact x⟩
/-! ### arguments, displays -/
def fNil : M (List D) := fun r => .ok [] r
def fCons (f : M D) (g : M (List D)) : M (List D) := bnd f fun d => bnd g fun ds => fun r => .ok (d :: ds) r
theorem da_nil : DA X T o true [] fNil := ⟨fun W _ => ⟨_, pa_nil, fun r σ H w Q s g => g.end s rfl⟩⟩
theorem da_cons (h : DE X T o qa .S e f) (hr : DA X T o qb es fs) (hs : starEach (e :: es) X.env = (false, eval e X.env) :: starEach es X.env := by rfl) : DA X T o (qa && qb) (e :: es) (fCons f fs) := ⟨fun W tk => by
  obtain ⟨ta, pa, ga⟩ := h.run W tk
  obtain ⟨tb, pb, gb⟩ := hr.run W tk
  refine ⟨_, pa_cons pa pb hs, fun r σ H w Q s g => ga r σ H w _ s (Gd.fst vA_back g (q1 := qa) (q2 := qb) (by simp) fun dx r1 x H1 w1 _ s1 t1 q1 vx h1 => ?_)⟩
  refine gb r1 σ H1 w1 _ s1 (Gd.fst vA_back h1 (q1 := qb) (q2 := true) (fun z => ⟨z, rfl⟩) fun ds r2 ys H2 w2 _ s2 t2 q2 vy h2 => ?_)
  exact h2.end s2 ⟨x, ys, rfl, Rep.mono t2.grow _ _ vx, vy⟩⟩
def fTup (f : M (List D)) : M D := bnd f fun ds => lif (if lim ds.length then some (.tup ds) else none)
def fLst (kz : Kd) (f : M (List D)) : M D := bnd f fun ds => lif (if lim ds.length && fitK kz ds then some (.lst ds) else none)
theorem de_tup {x1 : Nat} (h : DA X T o q es fs) : DE X T o q .S (.Tuple es x1 pos) (fTup fs) := ⟨fun W tk => by
  obtain ⟨ta, pa, ga⟩ := h.run W tk
  refine ⟨_, pe_tup pa, fun r σ H w Q s g => ga r σ H w _ s (Gd.fst Val.back g (q1 := q) (q2 := true) (fun z => ⟨z, rfl⟩) fun ds r1 xs H1 w1 _ s1 t1 q1 vx h1 => ?_)⟩
  obtain ⟨d, e, h2⟩ := h1.lif
  split at e
  · rename_i hl
    cases e
    have vx' : RepL X.K w1.G ds xs := vx
    exact ⟨by rw [← vx'.length]; exact lim_sz hl, fun p hp => new_tup s1 hp vx' (by simp) fun z H' w' s2 t2 q2 v2 => h2 z H' w' s2 t2 (fun _ => q2) v2⟩
  · cases e⟩
theorem de_lst (hz : kz = .S ∨ kz = .F) (h : DA X T o q es fs) : DE X T o q kz (.List es pos) (fLst kz fs) := ⟨fun W tk => by
  obtain ⟨ta, pa, ga⟩ := h.run W tk
  refine ⟨_, pe_lst pa, fun r σ H w Q s g => ga r σ H w _ s (Gd.fst Val.back g (q1 := q) (q2 := true) (fun z => ⟨z, rfl⟩) fun ds r1 xs H1 w1 _ s1 t1 q1 vx h1 => ?_)⟩
  obtain ⟨d, e, h2⟩ := h1.lif
  split at e
  · rename_i hl
    cases e
    rw [Bool.and_eq_true] at hl
    have vx' : RepL X.K w1.G ds xs := vx
    refine ⟨by rw [← vx'.length]; exact lim_sz hl.1, fun p hp => new_lst s1 hp vx' hz hl.2 fun z H' w' s2 t2 q2 v2 => h2 z H' w' s2 t2 (fun _ => q2) v2⟩
  · cases e⟩
/-! ### subscripts, slices -/
def ixD : D → D → Option D
  | .str s, .int i => if lim s.length then (atI s i).map (fun c => .str [c]) else none
  | .lst xs, .int i => atI xs i
  | .tup xs, .int i => atI xs i
  | _, _ => none
theorem atI_rep {K : PySem.W.Frag} {G : Hp} {ds : List D} {vs : List V} {i : Int} {d : D} (h : RepL K G ds vs) (e : atI ds i = some d) : ∃ v, atI vs i = some v ∧ Rep K G d v := by
  unfold atI at e ⊢
  rw [← h.length]
  cases hi : ixN ds.length i with
  | none => rw [hi] at e; cases e
  | some j =>
    rw [hi] at e
    exact h.getD e
theorem og_ix (hk : k1 = .S ∨ k1 = .C) : OpG X T o k1 .S .S (rIx X.K) ixD := by
  intro r σ H H0 w dx dy dz x y Q s _ vx vy e k
  unfold ixD at e
  have don : ∀ z, Rep X.K w.G dz z → Q z H := fun z hz => k z H w s (Stp.refl _ _ _ _ _) (Quiet.refl _ _ _) hz
  split at e
  · rename_i st i
    split at e
    · rename_i hl
      obtain ⟨c, e1, e2⟩ := Option.map_eq_some_iff.mp e
      subst e2
      have e3 : x = .str ⟨st.toArray⟩ := by
        rcases hk with rfl | rfl
        · exact vx
        · obtain ⟨_, _, _, _, z, _⟩ := vx; cases z
      have e4 : y = .int i := vy
      exact .inr (.inr ⟨_, i, c, e3, e4, by rw [str_len]; exact lim_sz hl, by simpa using e1, don _ rfl⟩)
    · cases e
  · rename_i xs i
    obtain ⟨a, vs, rfl, h1, l1⟩ := Val.asC s vx (hk.imp id .inl)
    obtain ⟨v, e1, r1⟩ := atI_rep l1 e
    exact .inl ⟨a, vs, i, v, rfl, vy, .inl (.inl h1), e1, don _ r1⟩
  · rename_i xs i
    rcases hk with rfl | rfl
    · obtain ⟨a, vs, rfl, h1, l1⟩ := vx
      have l1' : RepL X.K w.G xs vs := l1
      obtain ⟨v, e1, r1⟩ := atI_rep l1' e
      exact .inr (.inl ⟨a, vs, i, v, rfl, vy, s.sub.t h1, e1, don _ r1⟩)
    · obtain ⟨_, _, _, _, z, _⟩ := vx; cases z
  · cases e
theorem de_ix (ha : DE X T o qa k1 a fa) (hb : DE X T o qb .S b fb) (hk : k1 = .S ∨ k1 = .C := by first | exact .inl rfl | exact .inr rfl) (hq : okq k1 qb = true := by rfl) (hs : PlainIx b := by exact fun _ _ => rfl) : DE X T o (qa && qb) .S (.Subscript a b pos) (m2 ixD fa fb) := ⟨fun W tk => by
  obtain ⟨ta, pa, ga⟩ := ha.run W tk
  obtain ⟨tb, pb, gb⟩ := hb.run W tk
  exact ⟨_, pe_ix ix_seq pa pb hs, de_bin_core (og_ix hk) hq ga gb⟩⟩
def vO : VR (Option Int) (Option Int) := fun _ _ _ a b => b = a
theorem vO_back : BackV vO := fun _ _ _ _ _ _ _ x => x
structure DO (X : Cx) (T : Tb) (o : Modes) (q : Bool) (e : Option Expr) (f : M (Option Int)) : Prop where
  run : ∀ W, Takes X W → ∃ t, PO X e t ∧ ∀ r σ H w Q, SR X.K T o r σ H w → Gd X.K T o q vO W r σ H w (f r) Q → t σ H Q
def fNo : M (Option Int) := fun r => .ok none r
def fPart (f : M D) : M (Option Int) := bnd f fun d => match d with
  | .int i => fun r => .ok (some i) r
  | _ => fun _ => .stk
theorem do_no : DO X T o true none fNo := ⟨fun W _ => ⟨_, po_none, fun r σ H w Q s g => g.end s rfl⟩⟩
theorem do_some (h : DE X T o q .S e f) : DO X T o q (some e) (fPart f) := ⟨fun W tk => by
  obtain ⟨ta, pa, ga⟩ := h.run W tk
  refine ⟨_, po_some pa, fun r σ H w Q s g => ga r σ H w _ s (Gd.fst vO_back g (q1 := q) (q2 := true) (fun z => ⟨z, rfl⟩) fun d r1 x H1 w1 _ s1 t1 q1 vx h1 => ?_)⟩
  cases d with
  | int i => exact ⟨i, vx, h1.end s1 rfl⟩
  | _ => exact h1.elim⟩
def cutL {α : Type} (xs : List α) (lo hi : Option Int) : List α := (xs.drop (HT.sIx xs.length 0 lo)).take (HT.sIx xs.length xs.length hi - HT.sIx xs.length 0 lo)
def sliceD (kz : Kd) (d : D) (lo hi : Option Int) : Option D := match d with
  | .str s => if lim s.length then some (.str (cutL s lo hi)) else none
  | .lst xs => if fitK kz (cutL xs lo hi) then some (.lst (cutL xs lo hi)) else none
  | .scr xs => if fitK kz (cutL xs lo hi) then some (.lst (cutL xs lo hi)) else none
  | .tup xs => some (.tup (cutL xs lo hi))
  | _ => none
def rSlD (K : PySem.W.Frag) : V → Option Int → Option Int → Hp → VK → Prop := fun x lo hi H Q => rSlS x lo hi H Q ∨ rSlL K x lo hi H Q ∨ rSlA K x lo hi H Q
theorem sl_D : SlR X (rSlD X.K) := sl_str.or (sl_list.or sl_tupA)
def fSl (kz : Kd) (f : M D) (g h : M (Option Int)) : M D := bnd f fun d => bnd g fun lo => bnd h fun hi => lif (sliceD kz d lo hi)
theorem cutL_rep {K : PySem.W.Frag} {G : Hp} {ds : List D} {vs : List V} (h : RepL K G ds vs) (lo hi : Option Int) : RepL K G (cutL ds lo hi) (cutV vs lo hi) := by
  unfold cutL cutV
  rw [h.length]
  exact (h.drop _).take _
theorem cutL_all {α : Type} {xs : List α} {lo hi : Option Int} (h : HT.sIx xs.length 0 lo = 0 ∧ HT.sIx xs.length xs.length hi = xs.length) : cutL xs lo hi = xs := by
  unfold cutL
  rw [h.1, h.2]
  simp
/-- a slice of a stable thing, or of a readable list of stable things -/
theorem de_sl {lo hi : Option Expr} {p2 : Pos} {fl fh : M (Option Int)} {ql qh : Bool} (hz : kz = .S ∨ kz = .F) (hk : k1 = .S ∨ k1 = .C) (ha : DE X T o qa k1 a fa) (hl : DO X T o ql lo fl) (hh : DO X T o qh hi fh) (hq : okq k1 (ql && qh) = true := by rfl) :
    DE X T o (qa && (ql && qh)) kz (.Subscript a (.Slice lo hi none p2) pos) (fSl kz fa fl fh) := ⟨fun W tk => by
  obtain ⟨ta, pa, ga⟩ := ha.run W tk
  obtain ⟨tl, pl, gl⟩ := hl.run W tk
  obtain ⟨th, ph, gh⟩ := hh.run W tk
  refine ⟨_, pe_slice sl_D pa pl ph, fun r σ H w Q s g => ga r σ H w _ s (Gd.fst Val.back g (q1 := qa) (q2 := ql && qh) (by simp) fun d r1 x H1 w1 z1 s1 t1 q1 vx h1 => ?_)⟩
  refine gl r1 σ H1 w1 _ s1 (Gd.fst Val.back h1 (q1 := ql) (q2 := qh) (by simp) fun lo r2 lo' H2 w2 z2 s2 t2 q2 e2 h2 => ?_)
  refine gh r2 σ H2 w2 _ s2 (Gd.fst Val.back h2 (q1 := qh) (q2 := true) (fun z => ⟨z, rfl⟩) fun hi r3 hi' H3 w3 z3 s3 t3 q3 e3 h3 => ?_)
  clear z1 z2 z3
  have e2' : lo' = lo := e2
  have e3' : hi' = hi := e3
  subst e2' e3'
  obtain ⟨dz, e, h4⟩ := h3.lif
  have hzc : kz ≠ .C := by rcases hz with rfl | rfl <;> simp
  have vx3 : Val X.K T k1 H w3 H3 d x := vx.keepq (q := ql && qh) hq (t2.trans t3) fun z => by
    rw [Bool.and_eq_true] at z
    exact (q2 z.1).trans (q3 z.2)
  have kk : ∀ z H' w', SR X.K T o r3 σ H' w' → Stp o r3 σ H3 w3 r3 σ H' w' → Quiet r3 H3 w3 r3 H' w' → Val X.K T kz H3 w' H' dz z → Q z H' := fun z H' w' a1 a2 a3 a4 => h4 z H' w' a1 a2 (fun _ => a3) a4
  unfold sliceD at e
  split at e
  · rename_i st
    split at e
    · rename_i hlm
      cases e
      have e4 : x = .str ⟨st.toArray⟩ := by
        rcases hk with rfl | rfl
        · exact vx3
        · obtain ⟨_, _, _, _, z, _⟩ := vx3; cases z
      refine .inl ⟨_, e4, by rw [str_len]; exact lim_sz hlm, kk _ _ _ s3 (Stp.refl _ _ _ _ _) (Quiet.refl _ _ _) (val_leafy kz s3 rfl ?_ hzc)⟩
      show V.str _ = V.str _
      unfold cutS cutL
      rw [str_len]
    · cases e
  · rename_i xs
    split at e
    · rename_i hf
      cases e
      obtain ⟨p, vs, rfl, m1, l1⟩ := Val.asC s3 vx3 (hk.imp id .inl)
      exact .inr (.inl ⟨p, vs, rfl, .inl (.inl m1), fun p' hp => new_lst s3 hp (cutL_rep l1 _ _) hz hf kk⟩)
    · cases e
  · rename_i xs
    split at e
    · rename_i hf
      cases e
      rcases hk with rfl | rfl
      · obtain ⟨p, vs, rfl, m1, l1⟩ := vx3
        have l1' : RepL X.K w3.G xs vs := l1
        exact .inr (.inl ⟨p, vs, rfl, s3.sub.l m1, fun p' hp => new_lst s3 hp (cutL_rep l1' _ _) hz hf kk⟩)
      · obtain ⟨_, _, _, _, z, _⟩ := vx3; cases z
    · cases e
  · rename_i xs
    cases e
    rcases hk with rfl | rfl
    · obtain ⟨p, vs, rfl, m1, l1⟩ := vx3
      have l1' : RepL X.K w3.G xs vs := l1
      refine .inr (.inr ⟨p, vs, rfl, s3.sub.t m1, fun w0 => ?_, fun w0 p' hp => new_tup s3 hp (cutL_rep l1' _ _) hzc kk⟩)
      refine kk _ _ _ s3 (Stp.refl _ _ _ _ _) (Quiet.refl _ _ _) (val_leafy kz s3 rfl ?_ hzc)
      rw [← l1'.length] at w0
      rw [cutL_all w0]
      exact ⟨p, vs, rfl, m1, l1'⟩
    · obtain ⟨_, _, _, _, z, _⟩ := vx3; cases z
  · cases e⟩
/-! ### in -/
def memD (x : D) (ys : List D) : Bool := ys.any fun y => eqb y x
/-- a text stands in another one -/
def isSub (t : List Nat) : List Nat → Bool
  | [] => t.isEmpty
  | c :: r => (t.isPrefixOf (c :: r)) || isSub t r
def inD (neg : Bool) (x y : D) : Option D := match y with
  | .str z => match x with
    | .str [c] => some (.bl (if neg then !decide (c ∈ z) else decide (c ∈ z)))
    | _ => none
  | .lst ys => if scalD x && ys.all scalD then some (.bl (if neg then !memD x ys else memD x ys)) else none
  | .tup ys => if scalD x && ys.all scalD then some (.bl (if neg then !memD x ys else memD x ys)) else none
  | _ => none
theorem scal_flat {K : PySem.W.Frag} {G : Hp} {d : D} {v : V} (h : scalD d = true) (r : Rep K G d v) : flatV v = true := by
  cases d with
  | non => rw [show v = _ from r]; rfl
  | bl b => rw [show v = _ from r]; rfl
  | int i => rw [show v = _ from r]; rfl
  | str s => rw [show v = _ from r]; rfl
  | _ => simp [scalD] at h
theorem scal_flatL {K : PySem.W.Frag} {G : Hp} : ∀ {ds : List D} {vs : List V}, ds.all scalD = true → RepL K G ds vs → vs.all flatV = true
  | [], _, _, r => by rw [show _ = _ from r] <;> rfl
  | d :: ds, _, h, r => by
    obtain ⟨v, vs, rfl, r1, r2⟩ := r
    simp only [List.all_cons, Bool.and_eq_true] at h ⊢
    exact ⟨scal_flat h.1 r1, scal_flatL h.2 r2⟩
theorem eqV_eqb {K : PySem.W.Frag} {G G' : Hp} {d e : D} {v u : V} (hd : scalD d = true) (he : scalD e = true) (r : Rep K G d v) (r' : Rep K G' e u) : eqV v u = eqb d e := by
  cases d with
  | non =>
    rw [show v = _ from r]
    cases e with
    | non => rw [show u = _ from r'] <;> rfl
    | bl b => rw [show u = _ from r'] <;> rfl
    | int i => rw [show u = _ from r'] <;> rfl
    | str s => rw [show u = _ from r'] <;> rfl
    | _ => simp [scalD] at he
  | bl b =>
    rw [show v = _ from r]
    cases e with
    | non => rw [show u = _ from r'] <;> rfl
    | bl b => rw [show u = _ from r'] <;> rfl
    | int i => rw [show u = _ from r'] <;> rfl
    | str s => rw [show u = _ from r'] <;> rfl
    | _ => simp [scalD] at he
  | int i =>
    rw [show v = _ from r]
    cases e with
    | non => rw [show u = _ from r'] <;> rfl
    | bl b => rw [show u = _ from r'] <;> rfl
    | int i => rw [show u = _ from r']; simp [eqV, eqb, Bool.beq_eq_decide_eq]
    | str s => rw [show u = _ from r'] <;> rfl
    | _ => simp [scalD] at he
  | str s =>
    rw [show v = _ from r]
    cases e with
    | non => rw [show u = _ from r'] <;> rfl
    | bl b => rw [show u = _ from r'] <;> rfl
    | int i => rw [show u = _ from r'] <;> rfl
    | str s => rw [show u = _ from r']; exact ofArr _ _
    | _ => simp [scalD] at he
  | _ => simp [scalD] at hd
theorem inV_memD {K : PySem.W.Frag} {G G' : Hp} {x : D} {v : V} (hx : scalD x = true) (rx : Rep K G' x v) : ∀ {ds : List D} {vs : List V}, ds.all scalD = true → RepL K G ds vs → inV v vs = memD x ds
  | [], _, _, r => by rw [show _ = _ from r] <;> rfl
  | d :: ds, _, h, r => by
    obtain ⟨u, us, rfl, r1, r2⟩ := r
    simp only [List.all_cons, Bool.and_eq_true] at h
    have ih := inV_memD hx rx h.2 r2
    unfold inV memD at ih ⊢
    rw [List.any_cons, List.any_cons, ih, eqV_eqb h.1 hx r1 rx]
def rInD2 (K : PySem.W.Frag) (neg : Bool) : R2 := fun x y H Q => (∃ (c : Nat) (z : Str), x = .str ⟨#[c]⟩ ∧ y = .str z ∧ Q (.bl (if neg then !decide (c ∈ z.cps.toList) else decide (c ∈ z.cps.toList))) H) ∨ rIn K neg x y H Q
theorem orD_in : OpR X (compareOp .In) (rInD2 X.K false) := op_in_sign.or op_in_seq
theorem orD_notin : OpR X (compareOp .NotIn) (rInD2 X.K true) := op_notIn_sign.or op_notIn_seq
theorem og_in {neg : Bool} (hk : k2 = .S ∨ k2 = .C) : OpG X T o .S k2 .S (rInD2 X.K neg) (inD neg) := by
  intro r σ H H0 w dx dy dz x y Q s _ vx vy e k
  unfold inD at e
  have don : ∀ z, Rep X.K w.G dz z → Q z H := fun z hz => k z H w s (Stp.refl _ _ _ _ _) (Quiet.refl _ _ _) hz
  cases dy with
  | str z =>
    simp only at e
    split at e
    · rename_i c
      cases e
      have e1 : x = .str ⟨#[c]⟩ := vx
      have e2 : y = .str ⟨z.toArray⟩ := by
        rcases hk with rfl | rfl
        · exact vy
        · obtain ⟨_, _, _, _, z, _⟩ := vy; cases z
      exact .inl ⟨c, _, e1, e2, don _ rfl⟩
    · cases e
  | lst ys =>
    simp only at e
    split at e
    · rename_i hc
      cases e
      rw [Bool.and_eq_true] at hc
      obtain ⟨p, vs, rfl, m1, l1⟩ := Val.asC s vy (hk.imp id .inl)
      refine .inr ⟨p, vs, rfl, .inl (.inl (.inl m1)), scal_flat hc.1 (show Rep X.K w.G dx x from vx), scal_flatL hc.2 l1, ?_⟩
      rw [inV_memD hc.1 (show Rep X.K w.G dx x from vx) hc.2 l1]
      exact don _ rfl
    · cases e
  | tup ys =>
    simp only at e
    split at e
    · rename_i hc
      cases e
      rw [Bool.and_eq_true] at hc
      rcases hk with rfl | rfl
      · obtain ⟨p, vs, rfl, m1, l1⟩ := vy
        have l1' : RepL X.K w.G ys vs := l1
        refine .inr ⟨p, vs, rfl, .inr (s.sub.t m1), scal_flat hc.1 (show Rep X.K w.G dx x from vx), scal_flatL hc.2 l1', ?_⟩
        rw [inV_memD hc.1 (show Rep X.K w.G dx x from vx) hc.2 l1']
        exact don _ rfl
      · obtain ⟨_, _, _, _, z, _⟩ := vy; cases z
    · cases e
  | _ => cases e
/-! ### None -/
def isnD (neg : Bool) (d : D) : D := match d with
  | .non => .bl (!neg)
  | _ => .bl neg
def fIsN (neg : Bool) (f : M D) : M D := bnd f fun d => fun r => .ok (isnD neg d) r
theorem rep_non {K : PySem.W.Frag} {G : Hp} {d : D} {v : V} (r : Rep K G d v) : (v = .non) ↔ d = .non := by
  cases d with
  | non => exact ⟨fun _ => rfl, fun _ => r⟩
  | bl b => rw [show v = _ from r]; simp
  | int b => rw [show v = _ from r]; simp
  | str b => rw [show v = _ from r]; simp
  | tup b => obtain ⟨_, _, rfl, _⟩ := r; simp
  | lst b => obtain ⟨_, _, rfl, _⟩ := r; simp
  | scr b => obtain ⟨_, _, rfl, _⟩ := r; simp
  | dct a b => obtain ⟨_, _, rfl, _⟩ := r; simp
  | obj a b => exact r.elim
  | fn a => exact r.elim
theorem isn_val {K : PySem.W.Frag} {G : Hp} {d : D} {v : V} (r : Rep K G d v) : isnD false d = .bl (decide (v = .non)) ∧ isnD true d = .bl (!decide (v = .non)) := by
  have q := rep_non r
  by_cases e : v = .non
  · rw [decide_eq_true e, q.mp e]
    exact ⟨rfl, rfl⟩
  · rw [decide_eq_false e]
    have n : d ≠ .non := fun z => e (q.mpr z)
    cases d <;> first | exact absurd rfl n | exact ⟨rfl, rfl⟩
theorem de_isn {j : Nat} {p' : Pos} (ha : DE X T o q .R a f) : DE X T o q .S (.Compare a [.Is] [.Constant .none j p'] pos) (fIsN false f) := ⟨fun W tk => by
  obtain ⟨ta, pa, ga⟩ := ha.run W tk
  refine ⟨_, pe_cmp (pc_isN pa), fun r σ H w Q s g => ga r σ H w _ s (Gd.fst Val.back g (q1 := q) (q2 := true) (fun z => ⟨z, rfl⟩) fun d r1 x H1 w1 _ s1 t1 q1 vx h1 => ?_)⟩
  exact h1.end s1 (show Rep _ _ _ _ by rw [(isn_val vx).1]; rfl)⟩
theorem de_notn {j : Nat} {p' : Pos} (ha : DE X T o q .R a f) : DE X T o q .S (.Compare a [.IsNot] [.Constant .none j p'] pos) (fIsN true f) := ⟨fun W tk => by
  obtain ⟨ta, pa, ga⟩ := ha.run W tk
  refine ⟨_, pe_cmp (pc_notN pa), fun r σ H w Q s g => ga r σ H w _ s (Gd.fst Val.back g (q1 := q) (q2 := true) (fun z => ⟨z, rfl⟩) fun d r1 x H1 w1 _ s1 t1 q1 vx h1 => ?_)⟩
  exact h1.end s1 (show Rep _ _ _ _ by rw [(isn_val vx).2]; rfl)⟩
end
end Mir

set_option Elab.async false
set_option linter.all false
set_option maxRecDepth 100000
set_option maxHeartbeats 1000000
namespace Mir
open PySem L2
section
variable {X : Cx} {T : Tb} {o : Modes} {q qa qb qc : Bool} {k k1 k2 kz : Kd} {e a b c : Expr} {es rest : List Expr} {pos : Pos} {f fa fb fc : M D} {g ga gb : M Bool} {fs : M (List D)}
/-! ### tests -/
def fB (f : M D) : M Bool := bnd f fun d => match d with
  | .bl b => fun r => .ok b r
  | _ => fun _ => .stk
/-- from an expression's reading to that of a test of its value -/
theorem tB_core {ta : TE} {W : WX} (hq : k = .S)
    (hg : ∀ r σ H w Q, SR X.K T o r σ H w → Gd X.K T o q (Val X.K T k) W r σ H w (f r) Q → ta σ H Q) :
    ∀ r σ H w (Q : Bool → Hp → Prop), SR X.K T o r σ H w → Gd X.K T o q vT W r σ H w (fB f r) Q → ta σ H (fun x H' => ∃ k, x = .bl k ∧ Q k H') := by
  subst hq
  intro r σ H w Q s h
  refine hg r σ H w _ s (Gd.fst vT_back h (q1 := q) (q2 := true) (fun z => ⟨z, rfl⟩) fun d r1 x H1 w1 z1 s1 t1 q1 vx h1 => ?_)
  cases d with
  | bl b => exact ⟨b, vx, h1.end s1 rfl⟩
  | _ => exact h1.elim
theorem dt_val (h : DE X T o q .S e f) (he : ∀ whole, isTrue e X.env whole = (do let v ← whole; standAt e.pos; holding [v] (truthy v)) := by intro _; rfl) : DT X T o q e (fB f) := ⟨fun W tk => by
  obtain ⟨ta, pa, ga⟩ := h.run W tk
  exact ⟨_, pt_val pa he, tB_core rfl ga⟩⟩
theorem dt_cmp {op : CmpOp} {rr : R2} {g : D → D → Option D} (ho : OpR X (compareOp op) rr) (hr : OpG X T o k1 k2 .S rr g) (ha : DE X T o qa k1 a fa) (hb : DE X T o qb k2 b fb) (hk : okq k1 qb = true := by rfl) (hm : behindInMarks op b = false := by first | exact nomark _ | rfl) :
    DT X T o (qa && qb) (.Compare a [op] [b] pos) (fB (m2 g fa fb)) := ⟨fun W tk => by
  obtain ⟨ta, pa, ga⟩ := ha.run W tk
  obtain ⟨tb, pb, gb⟩ := hb.run W tk
  exact ⟨_, pt_cmpR ho pa pb hm, tB_core rfl (de_bin_core hr hk ga gb)⟩⟩
theorem dt_isn {j : Nat} {p' : Pos} (ha : DE X T o q .R a f) : DT X T o q (.Compare a [.Is] [.Constant .none j p'] pos) (fB (fIsN false f)) := ⟨fun W tk => by
  obtain ⟨ta, pa, ga⟩ := ha.run W tk
  refine ⟨_, pt_cmp (pc_isN pa), tB_core (X := X) (T := T) (o := o) (k := .S) (f := fIsN false f) rfl fun r σ H w Q s g => ga r σ H w _ s (Gd.fst Val.back g (q1 := q) (q2 := true) (fun z => ⟨z, rfl⟩) fun d r1 x H1 w1 _ s1 t1 q1 vx h1 => ?_)⟩
  exact h1.end s1 (show Rep _ _ _ _ by rw [(isn_val vx).1]; rfl)⟩
theorem dt_notn {j : Nat} {p' : Pos} (ha : DE X T o q .R a f) : DT X T o q (.Compare a [.IsNot] [.Constant .none j p'] pos) (fB (fIsN true f)) := ⟨fun W tk => by
  obtain ⟨ta, pa, ga⟩ := ha.run W tk
  refine ⟨_, pt_cmp (pc_notN pa), tB_core (X := X) (T := T) (o := o) (k := .S) (f := fIsN true f) rfl fun r σ H w Q s g => ga r σ H w _ s (Gd.fst Val.back g (q1 := q) (q2 := true) (fun z => ⟨z, rfl⟩) fun d r1 x H1 w1 _ s1 t1 q1 vx h1 => ?_)⟩
  exact h1.end s1 (show Rep _ _ _ _ by rw [(isn_val vx).2]; rfl)⟩
/-- a op b op' c -/
def fChain (g g' : D → D → Option D) (fa fb fc : M D) : M D := bnd fa fun x => bnd fb fun y => bnd (lif (g x y)) fun z => match z with
  | .bl true => bnd fc fun u => lif (g' y u)
  | .bl false => fun r => .ok (.bl false) r
  | _ => fun _ => .stk
theorem chain_core {rr rr' : R2} {g g' : D → D → Option D} (hr : OpG X T o .S .S .S rr g) (hr' : OpG X T o .S .S .S rr' g') {ta tb tc : TE} {W : WX}
    (ga : ∀ r σ H w Q, SR X.K T o r σ H w → Gd X.K T o qa (Val X.K T .S) W r σ H w (fa r) Q → ta σ H Q) (gb : ∀ r σ H w Q, SR X.K T o r σ H w → Gd X.K T o qb (Val X.K T .S) W r σ H w (fb r) Q → tb σ H Q)
    (gc : ∀ r σ H w Q, SR X.K T o r σ H w → Gd X.K T o qc (Val X.K T .S) W r σ H w (fc r) Q → tc σ H Q) :
    ∀ r σ H w Q, SR X.K T o r σ H w → Gd X.K T o (qa && (qb && qc)) (Val X.K T .S) W r σ H w (fChain g g' fa fb fc r) Q → tChain rr rr' ta tb tc σ H Q := by
  intro r σ H w Q s h
  refine ga r σ H w _ s (Gd.fst Val.back h (q1 := qa) (q2 := qb && qc) (by simp) fun dx r1 x H1 w1 z1 s1 t1 q1 vx h1 => ?_)
  refine gb r1 σ H1 w1 _ s1 (Gd.fst Val.back h1 (q1 := qb) (q2 := qc) (by simp) fun dy r2 y H2 w2 z2 s2 t2 q2 vy h2 => ?_)
  have h2' := Gd.fst (val' := Val X.K T .S) (q1 := true) (q2 := qc) Val.back h2 (fun z => ⟨rfl, z⟩) (R := fun z H3 => ∃ k, z = .bl k ∧ (if k = true then tc σ H3 fun w' H4 => rr' y w' H4 Q else Q (.bl false) H3)) fun dz r3 z H3 w3 z3 s3 t3 q3 vz h3 => ?_
  · obtain ⟨dz, e, h3⟩ := h2'.lif
    exact hr r2 σ H2 H2 w2 dx dy dz x y _ s2 (fun _ z => z) (Rep.mono t2.grow _ _ vx) vy e fun z H' w' a1 a2 a3 a4 => h3 z H' w' a1 a2 (fun _ => a3) a4
  · cases dz with
    | bl kk =>
      refine ⟨kk, vz, ?_⟩
      cases kk with
      | true =>
        rw [if_pos rfl]
        refine gc r3 σ H3 w3 _ s3 (Gd.fst Val.back h3 (q1 := qc) (q2 := true) (fun z => ⟨z, rfl⟩) fun du r4 u H4 w4 z4 s4 t4 q4 vu h4 => ?_)
        obtain ⟨dw, e, h5⟩ := h4.lif
        exact hr' r4 σ H4 H4 w4 dy du dw y u Q s4 (fun _ z => z) (Rep.mono (t3.grow.trans t4.grow) _ _ vy) vu e fun z H' w' a1 a2 a3 a4 => h5 z H' w' a1 a2 (fun _ => a3) a4
      | false =>
        rw [if_neg Bool.false_ne_true]
        exact h3.end s3 rfl
    | _ => exact h3.elim
theorem de_chain {op op' : CmpOp} {rr rr' : R2} {g g' : D → D → Option D} (ho : OpR X (compareOp op) rr) (ho' : OpR X (compareOp op') rr') (hr : OpG X T o .S .S .S rr g) (hr' : OpG X T o .S .S .S rr' g') (ha : DE X T o qa .S a fa) (hb : DE X T o qb .S b fb) (hc : DE X T o qc .S c fc)
    (hm : lastMarks [op, op'] [b, c] = false := by with_unfolding_all rfl) : DE X T o (qa && (qb && qc)) .S (.Compare a [op, op'] [b, c] pos) (fChain g g' fa fb fc) := ⟨fun W tk => by
  obtain ⟨ta, pa, ga⟩ := ha.run W tk
  obtain ⟨tb, pb, gb⟩ := hb.run W tk
  obtain ⟨tc, pc, gc⟩ := hc.run W tk
  exact ⟨_, pe_chain ho ho' pa pb pc hm, chain_core hr hr' ga gb gc⟩⟩
theorem dt_chain {op op' : CmpOp} {rr rr' : R2} {g g' : D → D → Option D} (ho : OpR X (compareOp op) rr) (ho' : OpR X (compareOp op') rr') (hr : OpG X T o .S .S .S rr g) (hr' : OpG X T o .S .S .S rr' g') (ha : DE X T o qa .S a fa) (hb : DE X T o qb .S b fb) (hc : DE X T o qc .S c fc)
    (hm : lastMarks [op, op'] [b, c] = false := by with_unfolding_all rfl) : DT X T o (qa && (qb && qc)) (.Compare a [op, op'] [b, c] pos) (fB (fChain g g' fa fb fc)) := ⟨fun W tk => by
  obtain ⟨ta, pa, ga⟩ := ha.run W tk
  obtain ⟨tb, pb, gb⟩ := hb.run W tk
  obtain ⟨tc, pc, gc⟩ := hc.run W tk
  exact ⟨_, pt_chain ho ho' pa pb pc hm, tB_core rfl (chain_core hr hr' ga gb gc)⟩⟩
/-! and, or, not -/
structure DW (X : Cx) (T : Tb) (o : Modes) (q : Bool) (e : Expr) (f : M Bool) : Prop where
  run : ∀ W, Takes X W → ∃ t, PW X e t ∧ ∀ r σ H w Q, SR X.K T o r σ H w → Gd X.K T o q vT W r σ H w (f r) Q → t σ H Q
def fAnd (f g : M Bool) : M Bool := bnd f fun b => if b then g else fun r => .ok false r
def fOr (f g : M Bool) : M Bool := bnd f fun b => if b then fun r => .ok true r else g
def fNot (f : M Bool) : M Bool := bnd f fun b => fun r => .ok (!b) r
theorem dw_and1 (h : DT X T o q a g) : DW X T o q (.BoolOp .And [a] pos) g := ⟨fun W tk => by
  obtain ⟨ta, pa, ga⟩ := h.run W tk
  exact ⟨_, pw_and1 pa, ga⟩⟩
theorem dw_or1 (h : DT X T o q a g) : DW X T o q (.BoolOp .Or [a] pos) g := ⟨fun W tk => by
  obtain ⟨ta, pa, ga⟩ := h.run W tk
  exact ⟨_, pw_or1 pa, ga⟩⟩
theorem dw_and (ha : DT X T o qa a ga) (hb : DW X T o qb (.BoolOp .And (b :: rest) pos) gb) : DW X T o (qa && qb) (.BoolOp .And (a :: b :: rest) pos) (fAnd ga gb) := ⟨fun W tk => by
  obtain ⟨ta, pa, ga⟩ := ha.run W tk
  obtain ⟨tb, pb, gb⟩ := hb.run W tk
  refine ⟨_, pw_and pa pb, fun r σ H w Q s h => ga r σ H w _ s (Gd.fst vT_back h (q1 := qa) (q2 := qb) (by simp) fun x r1 x' H1 w1 z1 s1 t1 q1 vx h1 => ?_)⟩
  have vx' : x' = x := vx
  subst vx'
  cases x' with
  | true => rw [if_pos rfl] at h1 ⊢; exact gb r1 σ H1 w1 Q s1 h1
  | false =>
    rw [if_neg Bool.false_ne_true] at h1 ⊢
    exact h1.end s1 rfl⟩
theorem dw_or (ha : DT X T o qa a ga) (hb : DW X T o qb (.BoolOp .Or (b :: rest) pos) gb) : DW X T o (qa && qb) (.BoolOp .Or (a :: b :: rest) pos) (fOr ga gb) := ⟨fun W tk => by
  obtain ⟨ta, pa, ga⟩ := ha.run W tk
  obtain ⟨tb, pb, gb⟩ := hb.run W tk
  refine ⟨_, pw_or pa pb, fun r σ H w Q s h => ga r σ H w _ s (Gd.fst vT_back h (q1 := qa) (q2 := qb) (by simp) fun x r1 x' H1 w1 z1 s1 t1 q1 vx h1 => ?_)⟩
  have vx' : x' = x := vx
  subst vx'
  cases x' with
  | false => rw [if_neg Bool.false_ne_true] at h1 ⊢; exact gb r1 σ H1 w1 Q s1 h1
  | true =>
    rw [if_pos rfl] at h1 ⊢
    exact h1.end s1 rfl⟩
theorem DW.dt (h : DW X T o q e g) : DT X T o q e g := ⟨fun W tk => by
  obtain ⟨ta, pa, ga⟩ := h.run W tk
  exact ⟨_, pa.pt, ga⟩⟩
theorem dt_not (h : DT X T o q a g) : DT X T o q (.UnaryOp .Not a pos) (fNot g) := ⟨fun W tk => by
  obtain ⟨ta, pa, ga⟩ := h.run W tk
  refine ⟨_, pt_not pa, fun r σ H w Q s h => ga r σ H w _ s (Gd.fst vT_back h (q1 := q) (q2 := true) (fun z => ⟨z, rfl⟩) fun x r1 x' H1 w1 z1 s1 t1 q1 vx h1 => ?_)⟩
  have vx' : x' = x := vx
  subst vx'
  exact h1.end s1 rfl⟩
/-- as values -/
def fAndV (f g : M D) : M D := bnd f fun d => match d with
  | .bl true => g
  | .bl false => fun r => .ok (.bl false) r
  | _ => fun _ => .stk
def fOrV (f g : M D) : M D := bnd f fun d => match d with
  | .bl false => g
  | .bl true => fun r => .ok (.bl true) r
  | _ => fun _ => .stk
def fNotV (f : M D) : M D := bnd f fun d => match d with
  | .bl b => fun r => .ok (.bl (!b)) r
  | _ => fun _ => .stk
theorem de_one {op : BoolOp} (h : DE X T o q .S a f) : DE X T o q .S (.BoolOp op [a] pos) f := ⟨fun W tk => by
  obtain ⟨ta, pa, ga⟩ := h.run W tk
  exact ⟨_, pe_one pa, ga⟩⟩
theorem de_and (ha : DE X T o qa .S a fa) (hb : DE X T o qb .S (.BoolOp .And (b :: rest) pos) fb) : DE X T o (qa && qb) .S (.BoolOp .And (a :: b :: rest) pos) (fAndV fa fb) := ⟨fun W tk => by
  obtain ⟨ta, pa, ga⟩ := ha.run W tk
  obtain ⟨tb, pb, gb⟩ := hb.run W tk
  refine ⟨_, pe_and pa pb, fun r σ H w Q s h => ga r σ H w _ s (Gd.fst Val.back h (q1 := qa) (q2 := qb) (by simp) fun x r1 x' H1 w1 z1 s1 t1 q1 vx h1 => ?_)⟩
  cases x with
  | bl kk =>
    refine ⟨kk, vx, ?_⟩
    cases kk with
    | true => rw [if_pos rfl]; exact gb r1 σ H1 w1 Q s1 h1
    | false => rw [if_neg Bool.false_ne_true]; exact h1.end s1 rfl
  | _ => exact h1.elim⟩
theorem de_or (ha : DE X T o qa .S a fa) (hb : DE X T o qb .S (.BoolOp .Or (b :: rest) pos) fb) : DE X T o (qa && qb) .S (.BoolOp .Or (a :: b :: rest) pos) (fOrV fa fb) := ⟨fun W tk => by
  obtain ⟨ta, pa, ga⟩ := ha.run W tk
  obtain ⟨tb, pb, gb⟩ := hb.run W tk
  refine ⟨_, pe_or pa pb, fun r σ H w Q s h => ga r σ H w _ s (Gd.fst Val.back h (q1 := qa) (q2 := qb) (by simp) fun x r1 x' H1 w1 z1 s1 t1 q1 vx h1 => ?_)⟩
  cases x with
  | bl kk =>
    refine ⟨kk, vx, ?_⟩
    cases kk with
    | false => rw [if_neg Bool.false_ne_true]; exact gb r1 σ H1 w1 Q s1 h1
    | true => rw [if_pos rfl]; exact h1.end s1 rfl
  | _ => exact h1.elim⟩
theorem de_not (h : DE X T o q .S a f) : DE X T o q .S (.UnaryOp .Not a pos) (fNotV f) := ⟨fun W tk => by
  obtain ⟨ta, pa, ga⟩ := h.run W tk
  refine ⟨_, pe_not pa, fun r σ H w Q s h => ga r σ H w _ s (Gd.fst Val.back h (q1 := q) (q2 := true) (fun z => ⟨z, rfl⟩) fun x r1 x' H1 w1 z1 s1 t1 q1 vx h1 => ?_)⟩
  cases x with
  | bl kk => exact ⟨kk, vx, h1.end s1 rfl⟩
  | _ => exact h1.elim⟩
def fIf {α : Type} (t : M Bool) (f g : M α) : M α := bnd t fun b => if b then f else g
theorem de_if (hc : DT X T o qc c g) (ha : DE X T o qa k a fa) (hb : DE X T o qb k b fb) : DE X T o (qc && (qa && qb)) k (.IfExp c a b pos) (fIf g fa fb) := ⟨fun W tk => by
  obtain ⟨tc, pc, gc⟩ := hc.run W tk
  obtain ⟨ta, pa, ga⟩ := ha.run W tk
  obtain ⟨tb, pb, gb⟩ := hb.run W tk
  refine ⟨_, pe_ifExp pc pa pb, fun r σ H w Q s h => gc r σ H w _ s (Gd.fst Val.back h (q1 := qc) (q2 := qa && qb) (by simp) fun x r1 x' H1 w1 z1 s1 t1 q1 vx h1 => ?_)⟩
  have vx' : x' = x := vx
  subst vx'
  cases x' with
  | true => rw [if_pos rfl] at h1 ⊢; exact ga r1 σ H1 w1 Q s1 (Gd.adv Val.back (Stp.refl _ _ _ _ _) (fun z => by rw [Bool.and_eq_true] at z; exact ⟨z.1, Quiet.refl _ _ _⟩) h1)
  | false => rw [if_neg Bool.false_ne_true] at h1 ⊢; exact gb r1 σ H1 w1 Q s1 (Gd.adv Val.back (Stp.refl _ _ _ _ _) (fun z => by rw [Bool.and_eq_true] at z; exact ⟨z.2, Quiet.refl _ _ _⟩) h1)⟩
/-! ### built-in functions and types -/
theorem CallR.or {f : Value} {r r' : List V → Hp → VK → Prop} (h : CallR X f r) (h' : CallR X f r') : CallR X f (fun xs H Q => r xs H Q ∨ r' xs H Q) := by
  intro pins s σ H xs us Q I rx q
  rcases q with q | q
  · exact h pins s σ H xs us Q I rx q
  · exact h' pins s σ H xs us Q I rx q
def CG1 (X : Cx) (T : Tb) (o : Modes) (k1 kz : Kd) (rr : List V → Hp → VK → Prop) (g : D → Option D) : Prop :=
  ∀ (r : Rho) (σ : L2.St) (H H0 : Hp) (w : Wd) (dx dz : D) (x : V) (Q : VK), SR X.K T o r σ H w → (∀ a, H a = none → H0 a = none) → Val X.K T k1 H0 w H dx x → g dx = some dz →
    (∀ z H' w', SR X.K T o r σ H' w' → Stp o r σ H w r σ H' w' → Quiet r H w r H' w' → Val X.K T kz H w' H' dz z → Q z H') → rr [x] H Q
def fn1 (g : D → Option D) (f : M D) : M D := bnd f fun d => lif (g d)
theorem call1_core {rr : List V → Hp → VK → Prop} {g : D → Option D} (hr : CG1 X T o k1 kz rr g) {ta : TE} {W : WX}
    (ga : ∀ r σ H w Q, SR X.K T o r σ H w → Gd X.K T o qa (Val X.K T k1) W r σ H w (fa r) Q → ta σ H Q) :
    ∀ r σ H w Q, SR X.K T o r σ H w → Gd X.K T o qa (Val X.K T kz) W r σ H w (fn1 g fa r) Q → tCB rr (tCons ta tNil) σ H Q := by
  intro r σ H w Q s h
  refine ga r σ H w _ s (Gd.fst Val.back h (q1 := qa) (q2 := true) (fun z => ⟨z, rfl⟩) fun dx r1 x H1 w1 z1 s1 t1 q1 vx h1 => ?_)
  obtain ⟨dz, e, h2⟩ := h1.lif
  exact hr r1 σ H1 H w1 dx dz x Q s1 (fun a => back_of t1) vx e fun z H' w' a1 a2 a3 a4 => h2 z H' w' a1 a2 (fun _ => a3) a4
theorem de_callB {id : String} {x : Str} {p : Pos} {rr : List V → Hp → VK → Prop} {g : D → Option D} (hc : CallR X (.builtin id) rr) (hm : X.mg x = none) (hv : bootBuiltins x = some (.builtin id)) (hr : CG1 X T o k1 kz rr g) (ha : DE X T o qa k1 a fa)
    (hg : Gl X x := by rfl) (hn : x ≠ "__name__" := by decide) (hdb : (x == ("__debug__" : Str)) = false := by decide) (hs : starEach (a :: []) X.env = (false, eval a X.env) :: starEach [] X.env := by rfl) (hpl : (backTo pos (starEach [] X.env)).any (·.1) = false := by rfl) :
    DE X T o qa kz (.Call (.Name x p) [a] [] pos) (fn1 g fa) := ⟨fun W tk => by
  obtain ⟨ta, pa, ga⟩ := ha.run W tk
  exact ⟨_, pe_callB hc hg hm hv (pa_cons pa pa_nil hs) hn hdb (by first | exact hs | exact hpl) (by first | exact hpl | exact hs), call1_core hr ga⟩⟩
end
end Mir

set_option Elab.async false
set_option linter.all false
set_option maxRecDepth 100000
set_option maxHeartbeats 1000000
namespace Mir
open PySem L2
section
variable {X : Cx} {T : Tb} {o : Modes} {q qa qb qc : Bool} {k k1 k2 kz : Kd} {e a b c : Expr} {es rest : List Expr} {pos : Pos} {f fa fb fc : M D} {g ga gb : M Bool} {fs : M (List D)}
theorem de_callTy {Ty : String} {x : Str} {p : Pos} {rr : List V → Hp → VK → Prop} {g : D → Option D} (hc : CallR X (.type Ty) rr) (hm : X.mg x = none) (hv : bootBuiltins x = some (.type Ty)) (hr : CG1 X T o k1 kz rr g) (ha : DE X T o qa k1 a fa)
    (hg : Gl X x := by rfl) (hn : x ≠ "__name__" := by decide) (hdb : (x == ("__debug__" : Str)) = false := by decide) (hs : starEach (a :: []) X.env = (false, eval a X.env) :: starEach [] X.env := by rfl) (hpl : (backTo pos (starEach [] X.env)).any (·.1) = false := by rfl) :
    DE X T o qa kz (.Call (.Name x p) [a] [] pos) (fn1 g fa) := ⟨fun W tk => by
  obtain ⟨ta, pa, ga⟩ := ha.run W tk
  exact ⟨_, pe_callTy hc hg hm hv (pa_cons pa pa_nil hs) hn hdb hs hpl, call1_core hr ga⟩⟩
def CG2 (X : Cx) (T : Tb) (o : Modes) (k1 k2 kz : Kd) (rr : List V → Hp → VK → Prop) (g : D → D → Option D) : Prop := OpG X T o k1 k2 kz (fun x y H Q => rr [x, y] H Q) g
theorem call2_core {rr : List V → Hp → VK → Prop} {g : D → D → Option D} (hr : CG2 X T o k1 k2 kz rr g) (hk : okq k1 qb = true) {ta tb : TE} {W : WX}
    (ga : ∀ r σ H w Q, SR X.K T o r σ H w → Gd X.K T o qa (Val X.K T k1) W r σ H w (fa r) Q → ta σ H Q) (gb : ∀ r σ H w Q, SR X.K T o r σ H w → Gd X.K T o qb (Val X.K T k2) W r σ H w (fb r) Q → tb σ H Q) :
    ∀ r σ H w Q, SR X.K T o r σ H w → Gd X.K T o (qa && qb) (Val X.K T kz) W r σ H w (m2 g fa fb r) Q → tCB rr (tCons ta (tCons tb tNil)) σ H Q := de_bin_core hr hk ga gb
theorem de_callB2 {id : String} {x : Str} {p : Pos} {rr : List V → Hp → VK → Prop} {g : D → D → Option D} (hc : CallR X (.builtin id) rr) (hm : X.mg x = none) (hv : bootBuiltins x = some (.builtin id)) (hr : CG2 X T o k1 k2 kz rr g) (ha : DE X T o qa k1 a fa) (hb : DE X T o qb k2 b fb) (hk : okq k1 qb = true := by rfl)
    (hg : Gl X x := by rfl) (hn : x ≠ "__name__" := by decide) (hdb : (x == ("__debug__" : Str)) = false := by decide) (hs : starEach (a :: b :: []) X.env = (false, eval a X.env) :: starEach (b :: []) X.env := by rfl) (hs2 : starEach (b :: []) X.env = (false, eval b X.env) :: starEach [] X.env := by rfl) (hpl : (backTo pos (starEach (b :: []) X.env)).any (·.1) = false := by rfl) :
    DE X T o (qa && qb) kz (.Call (.Name x p) [a, b] [] pos) (m2 g fa fb) := ⟨fun W tk => by
  obtain ⟨ta, pa, ga⟩ := ha.run W tk
  obtain ⟨tb, pb, gb⟩ := hb.run W tk
  exact ⟨_, pe_callB hc hg hm hv (pa_cons pa (pa_cons pb pa_nil hs2) hs) hn hdb hs hpl, call2_core hr hk ga gb⟩⟩
/-! ### len, abs, int, min, max, sum -/
def lenD : D → Option D
  | .str s => if lim s.length then some (.int s.length) else none
  | .lst xs => some (.int xs.length)
  | .tup xs => some (.int xs.length)
  | .dct ks ds => if ks.length = ds.length then some (.int ks.length) else none
  | _ => none
def rLenD : List V → Hp → VK → Prop := fun xs H Q => ∃ p kvs, xs = [.ref p] ∧ Rd H p (.dK kvs) ∧ Q (.int ((kvs.length : Nat) : Int)) H
theorem cg_len (hk : k1 ≠ .F) : CG1 X T o k1 .S (fun xs H Q => ∃ x n, xs = [x] ∧ LenV X.K x H n ∧ Q (.int n) H) (fun d => match d with | .dct _ _ => none | d => lenD d) := by
  intro r σ H H0 w dx dz x Q s _ vx e k
  have don : ∀ n : Nat, dz = .int n → Q (.int n) H := fun n hz => k _ H w s (Stp.refl _ _ _ _ _) (Quiet.refl _ _ _) (by rw [hz]; rfl)
  have rx : Rep X.K H dx x := vx.rd s fun z => absurd z hk
  cases dx with
  | str st =>
    simp only [lenD] at e
    split at e
    · rename_i hl
      have e' : dz = .int st.length := by cases e; rfl
      refine ⟨x, st.length, rfl, ?_, don _ e'⟩
      rw [show x = _ from rx]
      exact ⟨by rw [str_len]; exact lim_sz hl, (str_len st).symm⟩
    · cases e
  | lst xs =>
    obtain ⟨p, vs, rfl, m, l⟩ := rx
    have l' : RepL X.K H xs vs := l
    have e' : dz = .int xs.length := by cases e; rfl
    exact ⟨_, xs.length, rfl, .inl ⟨vs, .inl (.inl m), l'.length⟩, don _ e'⟩
  | tup xs =>
    obtain ⟨p, vs, rfl, m, l⟩ := rx
    have l' : RepL X.K H xs vs := l
    have e' : dz = .int xs.length := by cases e; rfl
    exact ⟨_, xs.length, rfl, .inr ⟨vs, m, l'.length⟩, don _ e'⟩
  | _ => cases e
def absD : D → Option D
  | .int i => some (.int (if i < 0 then -i else i))
  | _ => none
theorem cg_abs : CG1 X T o .S .S (fun xs H Q => ∃ i, xs = [.int i] ∧ Q (.int (if i < 0 then -i else i)) H) absD := by
  intro r σ H H0 w dx dz x Q s _ vx e k
  cases dx with
  | int i =>
    refine ⟨i, by rw [show x = _ from vx], k _ H w s (Stp.refl _ _ _ _ _) (Quiet.refl _ _ _) ?_⟩
    cases e
    rfl
  | _ => cases e
def intOfD : D → Option D
  | .int i => some (.int i)
  | .bl b => some (.int (if b then 1 else 0))
  | _ => none
theorem cg_int : CG1 X T o .S .S (fun xs H Q => (∃ i, xs = [.int i] ∧ Q (.int i) H) ∨ ∃ k, xs = [.bl k] ∧ Q (.int (if k then 1 else 0)) H) intOfD := by
  intro r σ H H0 w dx dz x Q s _ vx e k
  have don : ∀ z, Rep X.K w.G dz z → Q z H := fun z hz => k z H w s (Stp.refl _ _ _ _ _) (Quiet.refl _ _ _) hz
  cases dx with
  | int i => cases e; exact .inl ⟨i, by rw [show x = _ from vx], don _ rfl⟩
  | bl i => cases e; exact .inr ⟨i, by rw [show x = _ from vx], don _ rfl⟩
  | _ => cases e
def max2D := intD (fun _ _ => true) (fun i j => if j > i then j else i)
def min2D := intD (fun _ _ => true) (fun i j => if j < i then j else i)
theorem cg_max2 : CG2 X T o .S .S .S (fun xs H Q => ∃ i j, xs = [.int i, .int j] ∧ Q (.int (if j > i then j else i)) H) max2D := og_int (by simp) fun i j H Q _ q => ⟨i, j, rfl, q⟩
theorem cg_min2 : CG2 X T o .S .S .S (fun xs H Q => ∃ i j, xs = [.int i, .int j] ∧ Q (.int (if j < i then j else i)) H) min2D := og_int (by simp) fun i j H Q _ q => ⟨i, j, rfl, q⟩
def intsD : List D → Option (List Int)
  | [] => some []
  | .int i :: ds => (intsD ds).map (i :: ·)
  | _ :: _ => none
theorem intsD_rep {K : PySem.W.Frag} {G : Hp} : ∀ {ds : List D} {vs : List V} {ns : List Int}, intsD ds = some ns → RepL K G ds vs → vs = ns.map V.int
  | [], _, _, e, r => by cases e; rw [show _ = _ from r] <;> rfl
  | d :: ds, _, ns, e, r => by
    obtain ⟨v, vs, rfl, r1, r2⟩ := r
    cases d with
    | int i =>
      simp only [intsD, Option.map_eq_some_iff] at e
      obtain ⟨ms, e1, rfl⟩ := e
      rw [intsD_rep e1 r2, show v = _ from r1] <;> rfl
    | _ => simp [intsD] at e
def sumI : List Int → Int
  | [] => 0
  | n :: ns => n + sumI ns
theorem sumI_eq : ∀ ns : List Int, sumI ns = ns.sum
  | [] => rfl
  | n :: ns => by rw [sumI, sumI_eq ns, List.sum_cons]
def maxI : Int → List Int → Int
  | m, [] => m
  | m, n :: ns => maxI (if n > m then n else m) ns
def minI : Int → List Int → Int
  | m, [] => m
  | m, n :: ns => minI (if n < m then n else m) ns
theorem maxI_ge : ∀ (ns : List Int) (m : Int), m ≤ maxI m ns ∧ (∀ y ∈ ns, y ≤ maxI m ns) ∧ (maxI m ns = m ∨ maxI m ns ∈ ns)
  | [], m => ⟨Int.le_refl _, by simp, .inl rfl⟩
  | n :: ns, m => by
    obtain ⟨a, b, c⟩ := maxI_ge ns (if n > m then n else m)
    have e : maxI m (n :: ns) = maxI (if n > m then n else m) ns := rfl
    rw [e]
    refine ⟨?_, fun y hy => ?_, ?_⟩
    · by_cases h : n > m
      · rw [if_pos h] at a ⊢; omega
      · rw [if_neg h] at a ⊢; omega
    · rcases List.mem_cons.mp hy with rfl | hy
      · by_cases h : y > m
        · rw [if_pos h] at a ⊢; omega
        · rw [if_neg h] at a ⊢; omega
      · exact b y hy
    · rcases c with c | c
      · by_cases h : n > m
        · rw [if_pos h] at c ⊢; exact .inr (by rw [c]; simp)
        · rw [if_neg h] at c ⊢; exact .inl c
      · exact .inr (List.mem_cons_of_mem _ c)
theorem minI_le : ∀ (ns : List Int) (m : Int), minI m ns ≤ m ∧ (∀ y ∈ ns, minI m ns ≤ y) ∧ (minI m ns = m ∨ minI m ns ∈ ns)
  | [], m => ⟨Int.le_refl _, by simp, .inl rfl⟩
  | n :: ns, m => by
    obtain ⟨a, b, c⟩ := minI_le ns (if n < m then n else m)
    have e : minI m (n :: ns) = minI (if n < m then n else m) ns := rfl
    rw [e]
    refine ⟨?_, fun y hy => ?_, ?_⟩
    · by_cases h : n < m
      · rw [if_pos h] at a ⊢; omega
      · rw [if_neg h] at a ⊢; omega
    · rcases List.mem_cons.mp hy with rfl | hy
      · by_cases h : y < m
        · rw [if_pos h] at a ⊢; omega
        · rw [if_neg h] at a ⊢; omega
      · exact b y hy
    · rcases c with c | c
      · by_cases h : n < m
        · rw [if_pos h] at c ⊢; exact .inr (by rw [c]; simp)
        · rw [if_neg h] at c ⊢; exact .inl c
      · exact .inr (List.mem_cons_of_mem _ c)
def sumD : D → Option D
  | .lst xs => (intsD xs).map fun ns => .int (sumI ns)
  | _ => none
def maxD : D → Option D
  | .lst xs => (intsD xs).bind fun ns => match ns with | [] => none | n :: ns => some (.int (maxI n ns))
  | _ => none
def minD : D → Option D
  | .lst xs => (intsD xs).bind fun ns => match ns with | [] => none | n :: ns => some (.int (minI n ns))
  | _ => none
theorem cg_sum (hk : k1 = .S ∨ k1 = .C) : CG1 X T o k1 .S (rSum X.K) sumD := by
  intro r σ H H0 w dx dz x Q s _ vx e k
  cases dx with
  | lst xs =>
    obtain ⟨a, vs, rfl, m, l⟩ := Val.asC s vx (hk.imp id .inl)
    simp only [sumD, Option.map_eq_some_iff] at e
    obtain ⟨ns, e1, rfl⟩ := e
    refine ⟨a, ns, rfl, .inl (.inl (by rw [m, intsD_rep e1 l])), ?_⟩
    refine k _ H w s (Stp.refl _ _ _ _ _) (Quiet.refl _ _ _) ?_
    rw [sumI_eq]; rfl
  | _ => cases e
theorem cg_max (hk : k1 = .S ∨ k1 = .C) : CG1 X T o k1 .S (rMax X.K) maxD := by
  intro r σ H H0 w dx dz x Q s _ vx e k
  cases dx with
  | lst xs =>
    obtain ⟨a, vs, rfl, m, l⟩ := Val.asC s vx (hk.imp id .inl)
    simp only [maxD, Option.bind_eq_some_iff] at e
    obtain ⟨ns, e1, e2⟩ := e
    refine ⟨a, ns, rfl, .inl (.inl (by rw [m, intsD_rep e1 l])), ?_, fun z hz hb => ?_⟩
    · cases ns with
      | nil => cases e2
      | cons n ns => simp
    · refine k _ H w s (Stp.refl _ _ _ _ _) (Quiet.refl _ _ _) ?_
      cases ns with
      | nil => cases e2
      | cons n ns =>
        cases e2
        obtain ⟨p1, p2, p3⟩ := maxI_ge ns n
        have h1 : z ≤ maxI n ns := by
          rcases List.mem_cons.mp hz with rfl | h
          · exact p1
          · exact p2 _ h
        have h2 : maxI n ns ≤ z := by
          rcases p3 with p3 | p3
          · rw [p3]; exact hb _ (by simp)
          · exact hb _ (List.mem_cons_of_mem _ p3)
        show V.int z = V.int _
        rw [Int.le_antisymm h1 h2]
  | _ => cases e
theorem cg_min (hk : k1 = .S ∨ k1 = .C) : CG1 X T o k1 .S (rMin X.K) minD := by
  intro r σ H H0 w dx dz x Q s _ vx e k
  cases dx with
  | lst xs =>
    obtain ⟨a, vs, rfl, m, l⟩ := Val.asC s vx (hk.imp id .inl)
    simp only [minD, Option.bind_eq_some_iff] at e
    obtain ⟨ns, e1, e2⟩ := e
    refine ⟨a, ns, rfl, .inl (.inl (by rw [m, intsD_rep e1 l])), ?_, fun z hz hb => ?_⟩
    · cases ns with
      | nil => cases e2
      | cons n ns => simp
    · refine k _ H w s (Stp.refl _ _ _ _ _) (Quiet.refl _ _ _) ?_
      cases ns with
      | nil => cases e2
      | cons n ns =>
        cases e2
        obtain ⟨p1, p2, p3⟩ := minI_le ns n
        have h1 : minI n ns ≤ z := by
          rcases List.mem_cons.mp hz with rfl | h
          · exact p1
          · exact p2 _ h
        have h2 : z ≤ minI n ns := by
          rcases p3 with p3 | p3
          · rw [p3]; exact hb _ (by simp)
          · exact hb _ (List.mem_cons_of_mem _ p3)
        show V.int z = V.int _
        rw [Int.le_antisymm h2 h1]
  | _ => cases e
/-! ### list, tuple -/
def listD (kz : Kd) : D → Option D
  | .lst xs => if fitK kz xs then some (.lst xs) else none
  | .tup xs => if fitK kz xs then some (.lst xs) else none
  | _ => none
theorem cg_list (hz : kz = .S ∨ kz = .F) (hk : k1 = .S ∨ k1 = .C) : CG1 X T o k1 kz (fun xs H Q => ∃ p ys, xs = [.ref p] ∧ (SqL X.K H p ys ∨ SqT X.K H p ys) ∧ ∀ l, H l = none → Q (.ref l) (upd H l (.lst ys))) (listD kz) := by
  intro r σ H H0 w dx dz x Q s hb vx e k
  have kk : ∀ z H' w', SR X.K T o r σ H' w' → Stp o r σ H w r σ H' w' → Quiet r H w r H' w' → Val X.K T kz H w' H' dz z → Q z H' := fun z H' w' a1 a2 a3 a4 => k z H' w' a1 a2 a3 a4
  cases dx with
  | lst xs =>
    simp only [listD] at e
    split at e
    · rename_i hf
      cases e
      obtain ⟨a, vs, rfl, m, l⟩ := Val.asC s vx (hk.imp id .inl)
      exact ⟨a, vs, rfl, .inl (.inl (.inl m)), fun p hp => new_lst s hp l hz hf kk⟩
    · cases e
  | tup xs =>
    simp only [listD] at e
    split at e
    · rename_i hf
      cases e
      rcases hk with rfl | rfl
      · obtain ⟨a, vs, rfl, m, l⟩ := vx
        exact ⟨a, vs, rfl, .inr (s.sub.t m), fun p hp => new_lst s hp (show RepL X.K w.G xs vs from l) hz hf kk⟩
      · obtain ⟨_, _, _, _, z, _⟩ := vx; cases z
    · cases e
  | _ => cases e
def tupleD : D → Option D
  | .lst xs => some (.tup xs)
  | .tup xs => some (.tup xs)
  | _ => none
theorem cg_tuple (hk : k1 = .S ∨ k1 = .C) : CG1 X T o k1 .S (fun xs H Q => ∃ p ys, xs = [.ref p] ∧ ((SqL X.K H p ys ∧ ∀ l, H l = none → Q (.ref l) (upd H l (.tup ys))) ∨ (SqT X.K H p ys ∧ Q (.ref p) H))) tupleD := by
  intro r σ H H0 w dx dz x Q s hb vx e k
  cases dx with
  | lst xs =>
    cases e
    obtain ⟨a, vs, rfl, m, l⟩ := Val.asC s vx (hk.imp id .inl)
    exact ⟨a, vs, rfl, .inl ⟨.inl (.inl m), fun p hp => new_tup (kz := .S) s hp l (by simp) k⟩⟩
  | tup xs =>
    cases e
    rcases hk with rfl | rfl
    · obtain ⟨a, vs, rfl, m, l⟩ := vx
      exact ⟨a, vs, rfl, .inr ⟨s.sub.t m, k _ H w s (Stp.refl _ _ _ _ _) (Quiet.refl _ _ _) ⟨a, vs, rfl, m, l⟩⟩⟩
    · obtain ⟨_, _, _, _, z, _⟩ := vx; cases z
  | _ => cases e
/-! ### methods of texts -/
def MG1 (X : Cx) (T : Tb) (o : Modes) (k1 k2 kz : Kd) (rr : V → List V → Hp → VK → Prop) (g : D → D → Option D) : Prop := OpG X T o k1 k2 kz (fun x y H Q => rr x [y] H Q) g
def isStrD : D → Bool
  | .str _ => true
  | _ => false
/-- x.name(y), x a text -/
def fM1 (g : D → D → Option D) (fa fb : M D) : M D := bnd fa fun x => if isStrD x then bnd fb fun y => lif (g x y) else fun _ => .stk
theorem isStr_val {K : PySem.W.Frag} {G : Hp} {d : D} {v : V} (h : isStrD d = true) (r : Rep K G d v) : ∃ a, v = .str a := by
  cases d with
  | str s => exact ⟨_, r⟩
  | _ => simp [isStrD] at h
theorem de_m1 {id : String} {name : Str} {apos cpos : Pos} {rr : V → List V → Hp → VK → Prop} {g : D → D → Option D} (hm : MtR X id rr) (hr : MG1 X T o .S k2 kz rr g) (pa : PlainAttrs "str") (slot : Slot "str" name id) (hty : typeOf (.builtin id) = pure (.type "method_descriptor"))
    (ha : DE X T o qa .S a fa) (hb : DE X T o qb k2 b fb) (hbase : attributeBase a name X.env (eval a X.env) = eval a X.env := by rfl)
    (hfew : ((backTo cpos (starEach (b :: []) X.env)).all (fun x => !x.1) && (backToKw cpos (keywordEach [] X.env)).all (fun x => x.1.isSome)
      && decide ((b :: []).length + ([] : List Keyword).length + (if ([] : List Keyword).isEmpty then 0 else 1) < 30)) = true := by rfl)
    (hline : (apos.endLine == cpos.line) = true := by rfl) (hs : starEach (b :: []) X.env = (false, eval b X.env) :: starEach [] X.env := by rfl) (hplain : (backTo cpos (starEach [] X.env)).any (·.1) = false := by rfl) :
    DE X T o (qa && qb) kz (.Call (.Attribute a name apos) [b] [] cpos) (fM1 g fa fb) := ⟨fun W tk => by
  obtain ⟨ta, pe, ga⟩ := ha.run W tk
  obtain ⟨tb, pb, gb⟩ := hb.run W tk
  refine ⟨_, pe_bm pa slot hty hm pe (pa_cons pb pa_nil hs) hbase hfew hline hs hplain, fun r σ H w Q s h => ga r σ H w _ s (Gd.fst Val.back h (q1 := qa) (q2 := qb) (by simp) fun dx r1 x H1 w1 z1 s1 t1 q1 vx h1 => ?_)⟩
  split at h1
  · rename_i hS
    obtain ⟨st, rfl⟩ := isStr_val hS (show Rep X.K w1.G dx x from vx)
    refine ⟨rfl, gb r1 σ H1 w1 _ s1 (Gd.fst Val.back h1 (q1 := qb) (q2 := true) (fun z => ⟨z, rfl⟩) fun dy r2 y H2 w2 z2 s2 t2 q2 vy h2 => ?_)⟩
    obtain ⟨dz, e, h3⟩ := h2.lif
    refine hr r2 σ H2 H w2 dx dy dz _ y Q s2 (fun a z => back_of t1 (back_of t2 z)) (Rep.mono t2.grow _ _ vx) (Val.back _ _ _ _ _ _ (fun a => back_of t1) vy) e fun z H' w' s3 t3 q3 v3 => ?_
    exact h3 z H' w' s3 t3 (fun _ => q3) v3
  · exact h1.elim⟩
end
end Mir

set_option Elab.async false
set_option linter.all false
set_option maxRecDepth 100000
set_option maxHeartbeats 1000000
namespace Mir
open PySem L2
/-! ### statements -/
/-- a value that leaves the def -/
def RV (K : PySem.W.Frag) (T : Tb) (o : Modes) (k : Kd) (H : Hp) (w w' : Wd) (H' : Hp) (d : D) (v : V) : Prop := match k with
  | .F => ∃ fp, MRep K T w'.G H' d v fp ∧ fp.Nodup ∧ ∀ a ∈ fp, (H a = none ∨ Mv o w a) ∧ w'.G a = none ∧ (∀ i, a ∉ w'.fp i) ∧ ∀ ps, H' a ≠ some (.tbl ps)
  | _ => Rep K w'.G d v
theorem RV.back {K : PySem.W.Frag} {T : Tb} {o : Modes} {k : Kd} {r r1 : Rho} {σ σ1 : L2.St} {H H1 H' : Hp} {w w1 w' : Wd} {d : D} {v : V} (s : Stp o r σ H w r1 σ1 H1 w1) (h : RV K T o k H1 w1 w' H' d v) : RV K T o k H w w' H' d v := by
  cases k with
  | F =>
    obtain ⟨fp, m, n, z⟩ := h
    refine ⟨fp, m, n, fun a ha => ⟨?_, (z a ha).2⟩⟩
    rcases (z a ha).1 with h | h
    · refine .inl ?_
      cases e : H a with
      | none => rfl
      | some u => exact absurd h (s.alive a (by rw [e]; simp))
    · exact s.mv h
  | S => exact h
  | C => exact h
  | R => exact h
def GdS (K : PySem.W.Frag) (T : Tb) (o : Modes) (kr : Kd) (W : WX) (r : Rho) (σ : L2.St) (H : Hp) (w : Wd) (x : Fl) (D : Ends) : Prop := match x with
  | .stk => False
  | .nx r' => ∀ σ' H' w', SR K T o r' σ' H' w' → Stp o r σ H w r' σ' H' w' → D.nx σ' H'
  | .bk r' => ∀ σ' H' w', SR K T o r' σ' H' w' → Stp o r σ H w r' σ' H' w' → D.bk σ' H'
  | .ct r' => ∀ σ' H' w', SR K T o r' σ' H' w' → Stp o r σ H w r' σ' H' w' → D.ct σ' H'
  | .rt d r' => ∀ v σ' H' w', SR K T o r' σ' H' w' → Stp o r σ H w r' σ' H' w' → RV K T o kr H w w' H' d v → D.rt v H'
  | .ex c r' => ∀ dd σ' H' w', SR K T o r' σ' H' w' → Stp o r σ H w r' σ' H' w' → W (.ref (T.exc c)) dd σ' H'
structure DS (X : Cx) (T : Tb) (o : Modes) (kr : Kd) (st : Stmt) (f : Rho → Fl) : Prop where
  run : ∀ W, Takes X W → ∃ t, PS X st t ∧ ∀ r σ H w D, SR X.K T o r σ H w → GdS X.K T o kr W r σ H w (f r) D → t D σ H
structure DSs (X : Cx) (T : Tb) (o : Modes) (kr : Kd) (st : List Stmt) (f : Rho → Fl) : Prop where
  run : ∀ W, Takes X W → ∃ t, PSs X st t ∧ ∀ r σ H w D, SR X.K T o r σ H w → GdS X.K T o kr W r σ H w (f r) D → t D σ H
section
variable {K : PySem.W.Frag} {T : Tb} {o : Modes} {kr : Kd} {q q1 q2 : Bool} {W : WX} {r r1 : Rho} {σ σ1 : L2.St} {H H1 : Hp} {w w1 : Wd} {D : Ends}
theorem GdS.adv {x : Fl} (s : Stp o r σ H w r1 σ1 H1 w1) (h : GdS K T o kr W r σ H w x D) : GdS K T o kr W r1 σ1 H1 w1 x D := by
  cases x with
  | stk => exact h
  | nx r' => exact fun σ' H' w' s1 t1 => h σ' H' w' s1 (s.trans t1)
  | bk r' => exact fun σ' H' w' s1 t1 => h σ' H' w' s1 (s.trans t1)
  | ct r' => exact fun σ' H' w' s1 t1 => h σ' H' w' s1 (s.trans t1)
  | rt d r' => exact fun v σ' H' w' s1 t1 v1 => h v σ' H' w' s1 (s.trans t1) (v1.back s)
  | ex c r' => exact fun dd σ' H' w' s1 t1 => h dd σ' H' w' s1 (s.trans t1)
/-- an expression, then code -/
def sE {α : Type} (f : M α) (g : α → Rho → Fl) : Rho → Fl := fun r => match f r with
  | .stk => .stk
  | .ok a r' => g a r'
  | .ex c r' => .ex c r'
theorem GdS.fst {α β : Type} {val : VR α β} {f : M α} {g : α → Rho → Fl} {R : β → Hp → Prop} (h : GdS K T o kr W r σ H w (sE f g r) D)
    (hR : ∀ d r1 v H1 w1, f r = .ok d r1 → SR K T o r1 σ H1 w1 → Stp o r σ H w r1 σ H1 w1 → val H w1 H1 d v → GdS K T o kr W r1 σ H1 w1 (g d r1) D → R v H1) : Gd K T o q val W r σ H w (f r) R := by
  unfold sE at h
  cases e : f r with
  | stk => rw [e] at h; exact h
  | ok d r1 =>
    rw [e] at h
    exact fun v H1 w1 s1 t1 _ v1 => hR d r1 v H1 w1 e s1 t1 v1 (h.adv t1)
  | ex c r1 => rw [e] at h; exact fun dd H' w' s1 t1 => h dd σ H' w' s1 t1
theorem GdS.fst0 {α β : Type} {val : VR α β} {f : M α} {g : α → Rho → Fl} {R : β → Hp → Prop} (h : GdS K T o kr W r σ H w (sE f g r) D)
    (hR : ∀ d r1 v H1 w1, f r = .ok d r1 → SR K T o r1 σ H1 w1 → Stp o r σ H w r1 σ H1 w1 → val H w1 H1 d v → GdS K T o kr W r σ H w (g d r1) D → R v H1) : Gd K T o q val W r σ H w (f r) R := by
  unfold sE at h
  cases e : f r with
  | stk => rw [e] at h; exact h
  | ok d r1 =>
    rw [e] at h
    exact fun v H1 w1 s1 t1 _ v1 => hR d r1 v H1 w1 e s1 t1 v1 h
  | ex c r1 => rw [e] at h; exact fun dd H' w' s1 t1 => h dd σ H' w' s1 t1
/-- code, then code -/
def sS (f g : Rho → Fl) : Rho → Fl := fun r => match f r with
  | .nx r' => g r'
  | x => x
theorem GdS.seq {f g : Rho → Fl} (h : GdS K T o kr W r σ H w (sS f g r) D) : GdS K T o kr W r σ H w (f r) { D with nx := fun σ' H' => ∃ r' w', SR K T o r' σ' H' w' ∧ Stp o r σ H w r' σ' H' w' ∧ GdS K T o kr W r' σ' H' w' (g r') D } := by
  unfold sS at h
  cases e : f r with
  | nx r1 =>
    rw [e] at h
    exact fun σ1 H1 w1 s1 t1 => ⟨r1, w1, s1, t1, h.adv t1⟩
  | stk => rw [e] at h; exact h
  | bk r1 => rw [e] at h; exact h
  | ct r1 => rw [e] at h; exact h
  | rt d r1 => rw [e] at h; exact h
  | ex c r1 => rw [e] at h; exact h
theorem GdS.end_nx (h : GdS K T o kr W r σ H w (.nx r) D) (s : SR K T o r σ H w) : D.nx σ H := h σ H w s (Stp.refl _ _ _ _ _)
end
section
variable {X : Cx} {T : Tb} {o : Modes} {kr : Kd} {q : Bool} {k : Kd} {e : Expr} {st : Stmt} {rest body : List Stmt} {pos : Pos} {f : M D} {g : M Bool} {fs gs : Rho → Fl}
def sNx : Rho → Fl := fun r => .nx r
theorem dss_nil : DSs X T o kr [] sNx := ⟨fun W tk => ⟨_, pss_nil, fun r σ H w D s h => h.end_nx s⟩⟩
theorem dss_cons (h1 : DS X T o kr st fs) (h2 : DSs X T o kr rest gs) : DSs X T o kr (st :: rest) (sS fs gs) := ⟨fun W tk => by
  obtain ⟨t, p, g⟩ := h1.run W tk
  obtain ⟨u, p2, g2⟩ := h2.run W tk
  exact ⟨_, pss_cons p p2, fun r σ H w D s h => g r σ H w _ s (by
    have h' := h.seq
    revert h'
    cases fs r with
    | nx r1 =>
      intro h' σ1 H1 w1 s1 t1
      obtain ⟨r2, w2, a1, a2, a3⟩ := h' σ1 H1 w1 s1 t1
      exact g2 r2 σ1 H1 w2 D a1 a3
    | stk => exact fun h' => h'
    | bk r1 => exact fun h' => h'
    | ct r1 => exact fun h' => h'
    | rt d r1 => exact fun h' => h'
    | ex c r1 => exact fun h' => h')⟩⟩
theorem dss_one (h1 : DS X T o kr st fs) : DSs X T o kr [st] fs := ⟨fun W tk => by
  obtain ⟨t, p, g⟩ := h1.run W tk
  exact ⟨_, pss_one p, g⟩⟩
theorem ds_pass : DS X T o kr (.Pass pos) sNx := ⟨fun W tk => ⟨_, ps_pass, fun r σ H w D s h => h.end_nx s⟩⟩
def sBk : Rho → Fl := fun r => .bk r
def sCt : Rho → Fl := fun r => .ct r
def sStk : Rho → Fl := fun _ => .stk
theorem ds_break : DS X T o kr (.Break pos) sBk := ⟨fun W tk => ⟨_, ps_break, fun r σ H w D s h => h σ H w s (Stp.refl _ _ _ _ _)⟩⟩
theorem ds_continue : DS X T o kr (.Continue pos) sCt := ⟨fun W tk => ⟨_, ps_continue, fun r σ H w D s h => h σ H w s (Stp.refl _ _ _ _ _)⟩⟩
theorem ds_doc {x j} {pos' : Pos} : DS X T o kr (.Expr (.Constant (.str x) j pos) pos') sNx := ⟨fun W tk => ⟨_, ps_doc, fun r σ H w D s h => h.end_nx s⟩⟩
theorem ds_never : DS X T o kr st sStk := ⟨fun W tk => ⟨_, ps_never, fun r σ H w D s h => h⟩⟩
theorem dss_never : DSs X T o kr rest sStk := ⟨fun W tk => ⟨_, pss_never, fun r σ H w D s h => h⟩⟩
def sDrop (f : M D) : Rho → Fl := sE f fun _ r => .nx r
theorem ds_expr (he : DE X T o q k e f) (hs : swapsWith e none pos.line X.env = pure false := by rfl) : DS X T o kr (.Expr e pos) (sDrop f) := ⟨fun W tk => by
  obtain ⟨t, p, g⟩ := he.run W tk
  exact ⟨_, ps_expr p hs, fun r σ H w D s h => g r σ H w _ s (GdS.fst h fun d r1 v H1 w1 z1 s1 t1 v1 h1 => h1.end_nx s1)⟩⟩
/-- return e -/
def sRet (f : M D) : Rho → Fl := sE f fun d r => .rt d r
theorem rv_of {K : PySem.W.Frag} {H H1 : Hp} {w w1 : Wd} {d : D} {v : V} (h : Val K T k H w1 H1 d v) (hk : k = kr) (hk2 : k = .S ∨ k = .F) : RV K T o kr H w w1 H1 d v := by
  subst hk
  rcases hk2 with rfl | rfl
  · exact h
  · obtain ⟨fp, m, n, z⟩ := h
    exact ⟨fp, m, n, fun a ha => ⟨.inl (z a ha).1, (z a ha).2⟩⟩
theorem ds_ret (he : DE X T o q kr e f) (hk : kr = .S ∨ kr = .F := by first | exact .inl rfl | exact .inr rfl) : DS X T o kr (.Return (some e) pos) (sRet f) := ⟨fun W tk => by
  obtain ⟨t, p, g⟩ := he.run W tk
  exact ⟨_, ps_ret p, fun r σ H w D s h => g r σ H w _ s (GdS.fst0 h fun d r1 v H1 w1 z1 s1 t1 v1 h1 => h1 v σ H1 w1 s1 t1 (rv_of v1 rfl hk))⟩⟩
def sRetN : Rho → Fl := fun r => .rt .non r
theorem ds_retN (hk : kr = .S := by rfl) : DS X T o kr (.Return none pos) sRetN := ⟨fun W tk => ⟨_, ps_retN, fun r σ H w D s h => h .non σ H w s (Stp.refl _ _ _ _ _) (by subst hk; rfl)⟩⟩
def sIf (c : M Bool) (a b : Rho → Fl) : Rho → Fl := sE c fun x => if x then a else b
theorem ds_if {c : Expr} {a b : List Stmt} (hc : DT X T o q c g) (ha : DSs X T o kr a fs) (hb : DSs X T o kr b gs) : DS X T o kr (.If c a b pos) (sIf g fs gs) := ⟨fun W tk => by
  obtain ⟨tc, pc, gc⟩ := hc.run W tk
  obtain ⟨ta, pa, ga⟩ := ha.run W tk
  obtain ⟨tb, pb, gb⟩ := hb.run W tk
  refine ⟨_, ps_if pc pa pb, fun r σ H w D s h => gc r σ H w _ s (GdS.fst h fun x r1 x' H1 w1 z1 s1 t1 vx h1 => ?_)⟩
  have vx' : x' = x := vx
  subst vx'
  cases x' with
  | true => rw [if_pos rfl] at h1 ⊢; exact ga r1 σ H1 w1 D s1 h1
  | false => rw [if_neg Bool.false_ne_true] at h1 ⊢; exact gb r1 σ H1 w1 D s1 h1⟩
/-- raise -/
def sEx (c : Nat) : Rho → Fl := fun r => .ex c r
theorem ds_raise {c : Nat} (he : PMk X e (fun _ H Q => Q (.ref (T.exc c)) none H)) (hc : X.calm = true := by rfl) : DS X T o kr (.Raise (some e) none pos) (sEx c) := ⟨fun W tk => ⟨_, ps_raise hc tk he, fun r σ H w D s h => h none σ H w s (Stp.refl _ _ _ _ _)⟩⟩
end
/-! ### stores -/
section
variable {K : PySem.W.Frag} {T : Tb} {o : Modes} {r : Rho} {σ : L2.St} {H : Hp} {w : Wd}
/-- whatever the slot held, it is now open -/
def putR (r : Rho) (i : Nat) (d : Option D) : Rho := r.set i d
theorem SR.set0 {i : Nat} {d : D} {v : V} (s : SR K T o r σ H w) (hm : mode o i = 0) (hv : Rep K w.G d v) : SR K T o (r.set i (some d)) (σ.set i (some v)) H w := by
  refine ⟨s.sub, s.gtab, fun j e h => ?_, s.off, s.live, s.dis, s.nd, s.ntab, s.tab, by simpa using s.len⟩
  by_cases hj : i = j
  · subst hj
    rw [List.getElem?_set] at h
    rw [if_pos rfl] at h
    split at h
    · rename_i hi
      cases h
      exact ⟨v, by rw [List.getElem?_set, if_pos rfl, if_pos (by rw [s.len]; exact hi)], by rw [if_pos hm]; exact hv⟩
    · cases h
  · rw [List.getElem?_set, if_neg hj] at h
    obtain ⟨u, e1, e2⟩ := s.val j e h
    exact ⟨u, by rw [List.getElem?_set, if_neg hj]; exact e1, e2⟩
theorem Stp.set0 {i : Nat} {d : D} {v : V} (hm : mode o i = 0) : Stp o r σ H w (r.set i (some d)) (σ.set i (some v)) H w :=
  ⟨by simp, by simp, Sub.refl _, fun _ h => .inl h, fun _ _ e _ _ => e, fun _ h => h, fun _ _ h => .inr (.inr h), fun j hj => ⟨by
    have n : i ≠ j := fun z => by rw [← z, hm] at hj; cases hj
    rw [List.getElem?_set, if_neg n], rfl⟩, fun j hj => by
    have n : i ≠ j := fun z => by rw [← z, hm] at hj; exact absurd hj (by decide)
    rw [List.getElem?_set, if_neg n], fun _ _ e => e⟩
abbrev Wd.own (w : Wd) (i : Nat) (fp : List Addr) : Wd := ⟨w.G, fun j => if j = i then fp else w.fp j⟩
theorem SR.set1 {i : Nat} {d : D} {v : V} {fp : List Addr} (s : SR K T o r σ H w) (hm : mode o i = 1) (hv : MRep K T w.G H d v fp) (nd : fp.Nodup) (hz : ∀ a ∈ fp, w.G a = none ∧ (∀ j, j ≠ i → a ∉ w.fp j) ∧ ∀ ps, H a ≠ some (.tbl ps)) :
    SR K T o (r.set i (some d)) (σ.set i (some v)) H (w.own i fp) := by
  refine ⟨s.sub, s.gtab, fun j e h => ?_, fun j a ha => ?_, fun j a ha => ?_, fun j l a ha hb => ?_, fun j => ?_, fun j a ps ha => ?_, s.tab, by simpa using s.len⟩
  · by_cases hj : i = j
    · subst hj
      rw [List.getElem?_set] at h
      rw [if_pos rfl] at h
      split at h
      · rename_i hi
        cases h
        refine ⟨v, by rw [List.getElem?_set, if_pos rfl, if_pos (by rw [s.len]; exact hi)], ?_⟩
        rw [if_neg (by rw [hm]; decide)]
        show MRep K T w.G H d v (if i = i then fp else w.fp i)
        rw [if_pos rfl]
        exact hv
      · cases h
    · rw [List.getElem?_set, if_neg hj] at h
      obtain ⟨u, e1, e2⟩ := s.val j e h
      refine ⟨u, by rw [List.getElem?_set, if_neg hj]; exact e1, ?_⟩
      show if mode o j = 0 then Rep K w.G e u else MRep K T w.G H e u (if j = i then fp else w.fp j)
      rw [if_neg (Ne.symm hj)]
      exact e2
  · have ha' : a ∈ if j = i then fp else w.fp j := ha
    split at ha'
    · exact (hz a ha').1
    · exact s.off j a ha'
  · have ha' : a ∈ if j = i then fp else w.fp j := ha
    split at ha'
    · exact hv.live _ _ _ a ha'
    · exact s.live j a ha'
  · have ha' : a ∈ if j = i then fp else w.fp j := ha
    have hb' : a ∈ if l = i then fp else w.fp l := hb
    split at ha' <;> split at hb'
    · rename_i e1 e2; rw [e1, e2]
    · rename_i e1 e2; exact absurd hb' ((hz a ha').2.1 l e2)
    · rename_i e1 e2; exact absurd ha' ((hz a hb').2.1 j e1)
    · exact s.dis j l a ha' hb'
  · show (if j = i then fp else w.fp j).Nodup
    split
    · exact nd
    · exact s.nd j
  · have ha' : a ∈ if j = i then fp else w.fp j := ha
    split at ha'
    · exact (hz a ha').2.2 ps
    · exact s.ntab j a ps ha'
theorem Stp.set1 {i : Nat} {d : D} {v : V} {fp : List Addr} {H0 : Hp} {r0 : Rho} {σ0 : L2.St} {w0 : Wd} (t : Stp o r0 σ0 H0 w0 r σ H w) (hm : mode o i = 1) (hf : ∀ a ∈ fp, H0 a = none ∨ Mv o w0 a) : Stp o r0 σ0 H0 w0 (r.set i (some d)) (σ.set i (some v)) H (w.own i fp) := by
  refine ⟨by simpa using t.len, by simpa using t.lenR, t.grow, t.newG, t.keep, t.alive, fun j a ha => ?_, fun j hj => ?_, fun j hj => ?_, t.kext⟩
  · have ha' : a ∈ if j = i then fp else w.fp j := ha
    split at ha'
    · rcases hf a ha' with h | h
      · exact .inl h
      · exact .inr (.inl h)
    · exact t.fps j a ha'
  · have n : i ≠ j := fun z => by rw [← z, hm] at hj; cases hj
    obtain ⟨a, b⟩ := t.fix j hj
    refine ⟨by rw [List.getElem?_set, if_neg n]; exact a, ?_⟩
    show (if j = i then fp else w.fp j) = _
    rw [if_neg (Ne.symm n)]; exact b
  · have n : i ≠ j := fun z => by rw [← z, hm] at hj; exact absurd hj (by decide)
    rw [List.getElem?_set, if_neg n]
    exact t.bind j hj
end
section
variable {X : Cx} {T : Tb} {o : Modes} {kr : Kd} {q : Bool} {k : Kd} {e : Expr} {st : Stmt} {rest body : List Stmt} {pos pos' : Pos} {f : M D} {g : M Bool} {fs gs : Rho → Fl}
/-- name = e -/
def sSet (i : Nat) (f : M D) : Rho → Fl := sE f fun d r => .nx (r.set i (some d))
theorem ds_set {i : Nat} {x : Str} (he : DE X T o q .S e f) (hm : mode o i = 0 := by rfl) (hN : X.N.Nodup := by decide) (hi : X.N[i]? = some x := by rfl) (hx : Loc X.env.scope x := by first | exact .inl rfl | exact .inr rfl) (hs : swapsWith e (some (.Name x pos')) pos.line X.env = pure false := by rfl) (hf : X.fn x = true ∨ X.env.scope.names.lookup x = some .local := by first | exact .inl rfl | exact .inr rfl) :
    DS X T o kr (.Assign [.Name x pos'] e pos) (sSet i f) := ⟨fun W tk => by
  obtain ⟨t, p, g⟩ := he.run W tk
  exact ⟨_, ps_set hN hi hx p hs hf, fun r σ H w D s h => g r σ H w _ s (GdS.fst h fun d r1 v H1 w1 z1 s1 t1 v1 h1 => h1 _ H1 w1 (s1.set0 hm v1) (Stp.set0 hm))⟩⟩
theorem ds_setF {i : Nat} {x : Str} (he : DE X T o q .F e f) (hm : mode o i = 1 := by rfl) (hN : X.N.Nodup := by decide) (hi : X.N[i]? = some x := by rfl) (hx : Loc X.env.scope x := by first | exact .inl rfl | exact .inr rfl) (hs : swapsWith e (some (.Name x pos')) pos.line X.env = pure false := by rfl) (hf : X.fn x = true ∨ X.env.scope.names.lookup x = some .local := by first | exact .inl rfl | exact .inr rfl) :
    DS X T o kr (.Assign [.Name x pos'] e pos) (sSet i f) := ⟨fun W tk => by
  obtain ⟨t, p, g⟩ := he.run W tk
  refine ⟨_, ps_set hN hi hx p hs hf, fun r σ H w D s h => g r σ H w _ s (GdS.fst0 h fun d r1 v H1 w1 z1 s1 t1 v1 h1 => ?_)⟩
  obtain ⟨fp, m, nd, z⟩ := v1
  exact h1 _ H1 _ (s1.set1 hm m nd fun a ha => ⟨(z a ha).2.1, fun j _ => (z a ha).2.2.1 j, (z a ha).2.2.2⟩) (t1.set1 hm fun a ha => .inl (z a ha).1)⟩
end
end Mir

set_option Elab.async false
set_option linter.all false
set_option maxRecDepth 100000
set_option maxHeartbeats 1000000
namespace Mir
open PySem L2
section
variable {X : Cx} {T : Tb} {o : Modes} {kr : Kd} {q : Bool} {k : Kd} {e : Expr} {es : List Expr} {st : Stmt} {rest body : List Stmt} {pos pos' : Pos} {f : M D} {g : M Bool} {fs gs : Rho → Fl} {fl : M (List D)}
/-! ### targets -/
structure DG (X : Cx) (T : Tb) (o : Modes) (tg : Expr) (is : List Nat) (b : D → Rho → Option Rho) : Prop where
  run : ∃ g, PG X tg g ∧ ∀ d r r' σ H w x Q, SR X.K T o r σ H w → Rep X.K w.G d x → b d r = some r' → (∀ σ', SR X.K T o r' σ' H w → Stp o r σ H w r' σ' H w → (∀ i, i ∉ is → σ'[i]? = σ[i]?) → Q σ' H) → g x σ H Q
structure DGs (X : Cx) (T : Tb) (o : Modes) (tg : List Expr) (is : List Nat) (b : List D → Rho → Option Rho) : Prop where
  run : ∃ g, PGs X tg g ∧ ∀ d r r' σ H w x Q, SR X.K T o r σ H w → RepL X.K w.G d x → b d r = some r' → (∀ σ', SR X.K T o r' σ' H w → Stp o r σ H w r' σ' H w → (∀ i, i ∉ is → σ'[i]? = σ[i]?) → Q σ' H) → g x σ H Q
def bNm (i : Nat) : D → Rho → Option Rho := fun d r => some (r.set i (some d))
def bNil : List D → Rho → Option Rho := fun ds r => match ds with
  | [] => some r
  | _ => none
def bCons (b : D → Rho → Option Rho) (bs : List D → Rho → Option Rho) : List D → Rho → Option Rho := fun ds r => match ds with
  | [] => none
  | d :: ds => (b d r).bind (bs ds)
def bTup (n : Nat) (bs : List D → Rho → Option Rho) : D → Rho → Option Rho := fun d r => match d with
  | .tup ds => if ds.length = n then bs ds r else none
  | _ => none
theorem dg_nm {i : Nat} {x : Str} (hN : X.N.Nodup) (hm : mode o i = 0 := by rfl) (hi : X.N[i]? = some x := by rfl) (hx : Loc X.env.scope x := by first | exact .inl rfl | exact .inr rfl) (hf : X.fn x = true ∨ X.env.scope.names.lookup x = some .local := by first | exact .inl rfl | exact .inr rfl) : DG X T o (.Name x pos) [i] (bNm i) :=
  ⟨_, pg_name hN hi hx hf, fun d r r' σ H w x Q s rx e k => by
    cases e
    exact k _ (s.set0 hm rx) (Stp.set0 hm) fun j hj => by rw [List.getElem?_set, if_neg (fun z => hj (by simp [z]))]⟩
theorem dg_nil : DGs X T o [] [] bNil := ⟨_, pgs_nil, fun d r r' σ H w x Q s rx e k => by
  cases d with
  | nil =>
    cases e
    exact ⟨rx, k σ s (Stp.refl _ _ _ _ _) fun _ _ => rfl⟩
  | cons => cases e⟩
theorem dg_cons {tg : Expr} {tgs : List Expr} {b : D → Rho → Option Rho} {bs : List D → Rho → Option Rho} {i1 i2 : List Nat} (h1 : DG X T o tg i1 b) (h2 : DGs X T o tgs i2 bs) (hs : (assignEach (tg :: tgs) X.env).map (·.2) = assign tg X.env :: (assignEach tgs X.env).map (·.2) := by rfl) : DGs X T o (tg :: tgs) (i1 ++ i2) (bCons b bs) := ⟨by
  obtain ⟨g, pg, kg⟩ := h1.run
  obtain ⟨g2, pg2, kg2⟩ := h2.run
  refine ⟨_, pgs_cons pg pg2 hs, fun d r r' σ H w x Q s rx e k => ?_⟩
  cases d with
  | nil => cases e
  | cons d ds =>
    obtain ⟨v, vs, rfl, r1, r2⟩ := rx
    simp only [bCons, Option.bind_eq_some_iff] at e
    obtain ⟨ra, e1, e2⟩ := e
    refine ⟨v, vs, rfl, kg d r ra σ H w v _ s r1 e1 fun σ1 s1 t1 n1 => ?_⟩
    exact kg2 ds ra r' σ1 H w vs _ s1 r2 e2 fun σ2 s2 t2 n2 => k σ2 s2 (t1.trans t2) fun i hi => (n2 i fun z => hi (List.mem_append_right _ z)).trans (n1 i fun z => hi (List.mem_append_left _ z))⟩
theorem dg_tup {kk n : Nat} {bs : List D → Rho → Option Rho} {is : List Nat} (h : DGs X T o es is bs) (hn : (assignEach es X.env).length = n := by rfl) (hc : X.calm = true := by rfl) (hst : (assignEach es X.env).findIdx? (·.1) = none := by rfl) : DG X T o (.Tuple es kk pos) is (bTup n bs) := ⟨by
  obtain ⟨g, pg, kg⟩ := h.run
  refine ⟨_, pg_tup hc pg hn hst, fun d r r' σ H w x Q s rx e k => ?_⟩
  cases d with
  | tup ds =>
    simp only [bTup] at e
    split at e
    · rename_i hl
      obtain ⟨a, vs, rfl, m, l⟩ := rx
      exact ⟨a, vs, rfl, s.sub.t m, by rw [← l.length]; exact hl, kg ds r r' σ H w vs Q s l e k⟩
    · cases e
  | _ => cases e⟩
def sAsg (f : M D) (b : D → Rho → Option Rho) : Rho → Fl := sE f fun d r => match b d r with
  | some r' => .nx r'
  | none => .stk
theorem ds_asg {tg : Expr} {b : D → Rho → Option Rho} {is : List Nat} (he : DE X T o q .S e f) (hg : DG X T o tg is b) (hs : swapsWithSole [tg] e pos.line X.env = pure false := by rfl) (hw : swappedStores [tg] e X.env = pure none := by rfl)
    (h1 : (assignEach [tg] X.env).map (·.2) = [assign tg X.env] := by rfl) : DS X T o kr (.Assign [tg] e pos) (sAsg f b) := ⟨fun W tk => by
  obtain ⟨t, p, ge⟩ := he.run W tk
  obtain ⟨g, pg, kg⟩ := hg.run
  refine ⟨_, ps_asg p pg hs hw h1, fun r σ H w D s h => ge r σ H w _ s (GdS.fst h fun d r1 v H1 w1 z1 s1 t1 v1 h1 => ?_)⟩
  cases eb : b d r1 with
  | none => rw [eb] at h1; exact h1.elim
  | some r' =>
    rw [eb] at h1
    exact kg d r1 r' σ H1 w1 v _ s1 v1 eb fun σ' s2 t2 _ => h1 σ' H1 w1 s2 t2⟩
/-- a, b = x, y at plain local names -/
def sPar2 (i j : Nat) (f : M (List D)) : Rho → Fl := sE f fun ds r => match ds with
  | [a, b] => .nx ((r.set i (some a)).set j (some b))
  | _ => .stk
theorem ds_par2 {i j : Nat} {x y : Str} {a b : Expr} {px py pt : Pos} {kt k2 pt2} (ha : DA X T o q [a, b] fl) (hN : X.N.Nodup) (hmi : mode o i = 0 := by rfl) (hmj : mode o j = 0 := by rfl) (hi : X.N[i]? = some x := by rfl) (hj : X.N[j]? = some y := by rfl) (hij : i ≠ j := by decide)
    (hc : X.calm = true := by rfl) (hx : X.env.scope.names.lookup x = some .local := by rfl) (hy : X.env.scope.names.lookup y = some .local := by rfl)
    (hw : swappedStores [.Tuple [.Name x px, .Name y py] kt pt] (.Tuple [a, b] k2 pt2) X.env = pure (some [x, y]) := by rfl)
    (hs : swapsWithSole [.Tuple [.Name x px, .Name y py] kt pt] (.Tuple [a, b] k2 pt2) pos.line X.env = pure false := by rfl) :
    DS X T o kr (.Assign [.Tuple [.Name x px, .Name y py] kt pt] (.Tuple [a, b] k2 pt2) pos) (sPar2 i j fl) := ⟨fun W tk => by
  obtain ⟨t, p, ge⟩ := ha.run W tk
  refine ⟨_, ps_par hc hN hi hj hij hx hy p hw hs, fun r σ H w D s h => ge r σ H w _ s (GdS.fst h fun ds r1 vs H1 w1 z1 s1 t1 v1 h1 => ?_)⟩
  match ds, v1, h1 with
  | [da, db], ⟨va, _, e1, ra, vb, _, e2, rb, e3⟩, h1 =>
    subst e1 e2 e3
    exact ⟨va, vb, rfl, h1 _ H1 w1 ((s1.set0 hmi ra).set0 hmj rb) ((Stp.set0 hmi).trans (Stp.set0 hmj))⟩
  | [], _, h1 => exact h1.elim
  | [_], _, h1 => exact h1.elim
  | _ :: _ :: _ :: _, _, h1 => exact h1.elim⟩
def sPar3 (i j l : Nat) (f : M (List D)) : Rho → Fl := sE f fun ds r => match ds with
  | [a, b, c] => .nx (((r.set i (some a)).set j (some b)).set l (some c))
  | _ => .stk
theorem ds_par3 {i j l : Nat} {x y z : Str} {a b c : Expr} {px py pz pt : Pos} {kt k2 pt2} (ha : DA X T o q [a, b, c] fl) (hN : X.N.Nodup) (hmi : mode o i = 0 := by rfl) (hmj : mode o j = 0 := by rfl) (hml : mode o l = 0 := by rfl) (hi : X.N[i]? = some x := by rfl) (hj : X.N[j]? = some y := by rfl) (hl : X.N[l]? = some z := by rfl) (hij : i ≠ j := by decide) (hil : i ≠ l := by decide) (hjl : j ≠ l := by decide)
    (hc : X.calm = true := by rfl) (hx : X.env.scope.names.lookup x = some .local := by rfl) (hy : X.env.scope.names.lookup y = some .local := by rfl) (hz : X.env.scope.names.lookup z = some .local := by rfl)
    (hw : swappedStores [.Tuple [.Name x px, .Name y py, .Name z pz] kt pt] (.Tuple [a, b, c] k2 pt2) X.env = pure (some [x, y, z]) := by rfl)
    (hs : swapsWithSole [.Tuple [.Name x px, .Name y py, .Name z pz] kt pt] (.Tuple [a, b, c] k2 pt2) pos.line X.env = pure false := by rfl) :
    DS X T o kr (.Assign [.Tuple [.Name x px, .Name y py, .Name z pz] kt pt] (.Tuple [a, b, c] k2 pt2) pos) (sPar3 i j l fl) := ⟨fun W tk => by
  obtain ⟨t, p, ge⟩ := ha.run W tk
  refine ⟨_, ps_par3 hc hN hi hj hl hij hil hjl hx hy hz p hw hs, fun r σ H w D s h => ge r σ H w _ s (GdS.fst h fun ds r1 vs H1 w1 z1 s1 t1 v1 h1 => ?_)⟩
  match ds, v1, h1 with
  | [da, db, dc], ⟨va, _, e1, ra, vb, _, e2, rb, vc, _, e3, rc, e4⟩, h1 =>
    subst e1 e2 e3 e4
    exact ⟨va, vb, vc, rfl, h1 _ H1 w1 (((s1.set0 hmi ra).set0 hmj rb).set0 hml rc) (((Stp.set0 hmi).trans (Stp.set0 hmj)).trans (Stp.set0 hml))⟩
  | [], _, h1 => exact h1.elim
  | [_], _, h1 => exact h1.elim
  | [_, _], _, h1 => exact h1.elim
  | _ :: _ :: _ :: _ :: _, _, h1 => exact h1.elim⟩
/-! name op= e -/
def sAug (i : Nat) (g : D → D → Option D) (f : M D) : Rho → Fl := fun r => match r[i]? with
  | some (some dx) => sE f (fun dy r1 => match g dx dy with
    | some dz => .nx (r1.set i (some dz))
    | none => .stk) r
  | _ => .stk
theorem ds_aug {i : Nat} {x : Str} {op : Operator} {rr : R2} {g : D → D → Option D} (ho : OpR X (inplaceOp op) rr) (hr : OpG X T o .S .S .S rr g) (he : DE X T o q .S e f) (hN : X.N.Nodup) (hm : mode o i = 0 := by rfl) (hi : X.N[i]? = some x := by rfl) (hx : Loc X.env.scope x := by first | exact .inl rfl | exact .inr rfl) (hf : X.fn x = true ∨ X.env.scope.names.lookup x = some .local := by first | exact .inl rfl | exact .inr rfl) :
    DS X T o kr (.AugAssign (.Name x pos') op e pos) (sAug i g f) := ⟨fun W tk => by
  obtain ⟨t, p, ge⟩ := he.run W tk
  refine ⟨_, ps_aug hN hi hx p ho hf, fun r σ H w D s h => ?_⟩
  unfold sAug at h
  split at h
  · rename_i dx ei
    obtain ⟨vx, e1, rx⟩ := s.val i dx ei
    rw [if_pos hm] at rx
    refine ⟨vx, e1, ge r σ H w _ s (GdS.fst h fun dy r1 vy H1 w1 z1 s1 t1 v1 h1 => ?_)⟩
    cases eg : g dx dy with
    | none => rw [eg] at h1; exact h1.elim
    | some dz =>
      rw [eg] at h1
      exact hr r1 σ H1 H1 w1 dx dy dz vx vy _ s1 (fun _ z => z) (Rep.mono t1.grow _ _ rx) v1 eg fun z H' w' s2 t2 q2 v2 => h1 _ H' w' (s2.set0 hm v2) (t2.trans (Stp.set0 hm))
  · exact h.elim⟩
def rAugD : R2 := fun x y H Q => (rI0 fun i j => .int (i + j)) x y H Q ∨ (∃ i j, x = .str i ∧ y = .str j ∧ i.length + j.length ≤ sizeLine ∧ Q (.str (i ++ j)) H)
theorem iop_addD {X : Cx} : OpR X (inplaceOp .Add) rAugD := iop_add.or iop_add_str
def augD : D → D → Option D := fun x y => match x, y with
  | .int i, .int j => some (.int (i + j))
  | .str s, .str t => if lim (s.length + t.length) then some (.str (s ++ t)) else none
  | _, _ => none
theorem og_aug : OpG X T o .S .S .S rAugD augD := by
  intro r σ H H0 w dx dy dz x y Q s hb vx vy e k
  cases dx with
  | int i =>
    cases dy with
    | int j =>
      cases e
      exact .inl ⟨i, j, vx, vy, k _ H w s (Stp.refl _ _ _ _ _) (Quiet.refl _ _ _) rfl⟩
    | _ => cases e
  | str i =>
    cases dy with
    | str j =>
      simp only [augD] at e
      split at e
      · rename_i hl
        cases e
        refine .inr ⟨_, _, vx, vy, by rw [str_len, str_len]; exact lim_sz hl, ?_⟩
        rw [str_app]
        exact k _ H w s (Stp.refl _ _ _ _ _) (Quiet.refl _ _ _) rfl
      · cases e
    | _ => cases e
  | _ => cases e
/-! ### loops -/
def lp (x : Fl) (k : Rho → Fl) : Fl := match x with
  | .nx r => k r
  | .ct r => k r
  | .bk r => .nx r
  | .stk => .stk
  | .rt d r => .rt d r
  | .ex c r => .ex c r
theorem GdS.loop {K : PySem.W.Frag} {W : WX} {r : Rho} {σ : L2.St} {H : Hp} {w : Wd} {D : Ends} {x : Fl} {kk : Rho → Fl} {N : L2.St → Hp → Prop} (h : GdS K T o kr W r σ H w (lp x kk) D) (hN : ∀ r2 σ' H' w', SR K T o r2 σ' H' w' → Stp o r σ H w r2 σ' H' w' → GdS K T o kr W r2 σ' H' w' (kk r2) D → N σ' H') :
    GdS K T o kr W r σ H w x { D with nx := N, ct := N, bk := D.nx } := by
  cases x with
  | stk => exact h
  | nx r2 => exact fun σ' H' w' s1 t1 => hN r2 σ' H' w' s1 t1 (h.adv t1)
  | ct r2 => exact fun σ' H' w' s1 t1 => hN r2 σ' H' w' s1 t1 (h.adv t1)
  | bk r2 => exact h
  | rt d r2 => exact h
  | ex c r2 => exact h
def whileL (c : M Bool) (body : Rho → Fl) : Nat → Rho → Fl
  | 0 => fun _ => .stk
  | n + 1 => sE c fun b => if b then fun r1 => lp (body r1) (whileL c body n) else fun r1 => .nx r1
theorem ds_while {c : Expr} (n : Nat) (hp : PassesOwn (model X.prog X.w) X.A X.env X.xe) (hc : DT X T o q c g) (hb : DSs X T o kr body fs) : DS X T o kr (.While c body [] pos) (whileL g fs n) := ⟨fun W tk => by
  obtain ⟨tc, pc, gc⟩ := hc.run W tk
  obtain ⟨tb, pb, gb⟩ := hb.run W tk
  refine ⟨_, ps_while hp pc pb, fun r σ H w D s h => ⟨fun m σ' H' => ∃ r' w', SR X.K T o r' σ' H' w' ∧ GdS X.K T o kr W r' σ' H' w' (whileL g fs m r') D, ⟨n, r, w, s, h⟩, fun m σ1 H1 hm => ?_⟩⟩
  obtain ⟨r1, w1, s1, h1⟩ := hm
  cases m with
  | zero => exact h1.elim
  | succ m =>
    refine gc r1 σ1 H1 w1 _ s1 (GdS.fst h1 fun x r2 x' H2 w2 z2 s2 t2 vx h2 => ?_)
    have vx' : x' = x := vx
    subst vx'
    cases x' with
    | true =>
      rw [if_pos rfl] at h2 ⊢
      refine ⟨fun σ' H' => ∃ r' w', SR X.K T o r' σ' H' w' ∧ GdS X.K T o kr W r' σ' H' w' (whileL g fs m r') D, fun σ' H' h => ⟨m, Nat.lt_succ_self m, h⟩, ?_⟩
      exact gb r2 σ1 H2 w2 _ s2 (h2.loop fun r3 σ3 H3 w3 s3 t3 h3 => ⟨r3, w3, s3, h3⟩)
    | false =>
      rw [if_neg Bool.false_ne_true] at h2 ⊢
      exact h2.end_nx s2⟩
/-- what an iterator gives -/
def Wk (K : PySem.W.Frag) (T : Tb) (o : Modes) (r0 : Rho) (σ0 : L2.St) (H0 : Hp) (w0 : Wd) (J : It) (ds : List D) : Prop := ∀ i r σ H w, SR K T o r σ H w → Stp o r0 σ0 H0 w0 r σ H w →
  (ds.length ≤ i → J.stop i H) ∧ ∀ d, ds[i]? = some d → J.go i H ∧ ∀ x H', J.yld i H x H' → ∃ w', SR K T o r σ H' w' ∧ Stp o r σ H w r σ H' w' ∧ Rep K w'.G d x
def GdI (K : PySem.W.Frag) (T : Tb) (o : Modes) (W : WX) (r : Rho) (σ : L2.St) (H : Hp) (w : Wd) (x : Out (List D)) (R : It → Hp → Prop) : Prop := match x with
  | .stk => False
  | .ok ds r' => ∀ J H' w', SR K T o r' σ H' w' → Stp o r σ H w r' σ H' w' → Wk K T o r' σ H' w' J ds → R J H'
  | .ex c r' => ∀ dd H' w', SR K T o r' σ H' w' → Stp o r σ H w r' σ H' w' → W (.ref (T.exc c)) dd σ H'
structure DI (X : Cx) (T : Tb) (o : Modes) (tg e : Expr) (f : M (List D)) : Prop where
  run : ∀ W, Takes X W → ∃ wi, PI X tg e wi ∧ ∀ r σ H w R, SR X.K T o r σ H w → GdI X.K T o W r σ H w (f r) R → wi σ H R
def forL (b : D → Rho → Option Rho) (body : Rho → Fl) : List D → Rho → Fl
  | [], r => .nx r
  | d :: ds, r => match b d r with
    | none => .stk
    | some r1 => lp (body r1) (forL b body ds)
def sFor (f : M (List D)) (b : D → Rho → Option Rho) (body : Rho → Fl) : Rho → Fl := sE f fun ds => forL b body ds
theorem ds_for {tg iter : Expr} {b : D → Rho → Option Rho} {is : List Nat} (hp : PassesOwn (model X.prog X.w) X.A X.env X.xe) (hi : DI X T o tg iter fl) (hg : DG X T o tg is b) (hb : DSs X T o kr body fs) (hc : X.calm = true := by rfl)
    (hs : ∀ x, foldedSetIterable iter X.env x = pure x := by intro _; rfl) : DS X T o kr (.For tg iter body [] pos) (sFor fl b fs) := ⟨fun W tk => by
  obtain ⟨wi, pi, gi⟩ := hi.run W tk
  obtain ⟨tg', pg, kg⟩ := hg.run
  obtain ⟨tb, pb, gb⟩ := hb.run W tk
  refine ⟨_, ps_for hp hc pi pg pb hs, fun r σ H w D s h => gi r σ H w _ s ?_⟩
  have h' : GdI X.K T o W r σ H w (fl r) (fun J H1 => ∃ ds r1 w1, SR X.K T o r1 σ H1 w1 ∧ Wk X.K T o r1 σ H1 w1 J ds ∧ GdS X.K T o kr W r1 σ H1 w1 (forL b fs ds r1) D) := by
    unfold sFor sE at h
    cases e : fl r with
    | stk => rw [e] at h; exact h
    | ok ds r1 =>
      rw [e] at h
      exact fun J H1 w1 s1 t1 k1 => ⟨ds, r1, w1, s1, k1, h.adv t1⟩
    | ex c r1 => rw [e] at h; exact fun dd H' w' s1 t1 => h dd σ H' w' s1 t1
  have go : ∀ J H1, (∃ ds r1 w1, SR X.K T o r1 σ H1 w1 ∧ Wk X.K T o r1 σ H1 w1 J ds ∧ GdS X.K T o kr W r1 σ H1 w1 (forL b fs ds r1) D) → ∃ WW : Nat → Nat → L2.St → Hp → Prop, (∃ m, WW 0 m σ H1) ∧ ∀ i m σ H, WW i m σ H →
      (J.stop i H ∧ D.nx σ H) ∨ (J.go i H ∧ ∃ N : L2.St → Hp → Prop, (∀ σ' H', N σ' H' → ∃ m', m' < m ∧ WW (i + 1) m' σ' H') ∧ ∀ x H', J.yld i H x H' → tg' x σ H' fun σ2 H2 => tb { D with nx := N, ct := N, bk := D.nx } σ2 H2) := by
    intro J H1 ⟨ds, r1, w1, s1, k1, h1⟩
    let INV : Nat → L2.St → Hp → Prop := fun i σ' H' => ∃ r' w', SR X.K T o r' σ' H' w' ∧ Stp o r1 σ H1 w1 r' σ' H' w' ∧ GdS X.K T o kr W r' σ' H' w' (forL b fs (ds.drop i) r') D
    refine ⟨fun i m σ' H' => m = ds.length - i ∧ i ≤ ds.length ∧ INV i σ' H', ⟨ds.length, by simp, Nat.zero_le _, r1, w1, s1, Stp.refl _ _ _ _ _, h1⟩, ?_⟩
    rintro i m σ2 H2 ⟨rfl, hi, r2, w2, s2, t2, h2⟩
    obtain ⟨k2, k3⟩ := k1 i r2 σ2 H2 w2 s2 t2
    by_cases hlt : i < ds.length
    · have ed : ds.drop i = ds[i] :: ds.drop (i + 1) := List.drop_eq_getElem_cons hlt
      rw [ed] at h2
      obtain ⟨g1, g2⟩ := k3 ds[i] (by simp [hlt])
      refine .inr ⟨g1, INV (i + 1), fun σ' H' h => ⟨ds.length - (i + 1), by omega, rfl, hlt, h⟩, fun x H3 y => ?_⟩
      obtain ⟨w3, s3, t3, rx⟩ := g2 x H3 y
      have h3 := h2.adv t3
      unfold forL at h3
      cases eb : b ds[i] r2 with
      | none => rw [eb] at h3; exact h3.elim
      | some r4 =>
        rw [eb] at h3
        refine kg ds[i] r2 r4 σ2 H3 w3 x _ s3 rx eb fun σ4 s4 t4 _ => gb r4 σ4 H3 w3 _ s4 ((h3.adv t4).loop fun r5 σ5 H5 w5 s5 t5 h5 => ?_)
        exact ⟨r5, w5, s5, t2.trans (t3.trans (t4.trans t5)), h5⟩
    · have e : i = ds.length := by omega
      have ed : ds.drop i = [] := by rw [e]; simp
      rw [ed] at h2
      exact .inl ⟨k2 (by omega), h2.end_nx s2⟩
  revert h'
  cases fl r with
  | stk => exact fun h' => h'
  | ok ds r1 => exact fun h' J H1 w1 s1 t1 k1 => go J H1 (h' J H1 w1 s1 t1 k1)
  | ex c r1 => exact fun h' => h'⟩
/-! ### iterables -/
theorem GdI.of {K : PySem.W.Frag} {α β : Type} {val : VR α β} {W : WX} {r : Rho} {σ : L2.St} {H : Hp} {w : Wd} {f : M α} {gl : α → M (List D)} {R : It → Hp → Prop} {S : β → Hp → Prop} (h : GdI K T o W r σ H w (bnd f gl r) R)
    (hR : ∀ d r1 v H1 w1, SR K T o r1 σ H1 w1 → Stp o r σ H w r1 σ H1 w1 → val H w1 H1 d v → GdI K T o W r1 σ H1 w1 (gl d r1) R → S v H1) : Gd K T o q val W r σ H w (f r) S := by
  unfold bnd at h
  cases e : f r with
  | stk => rw [e] at h; exact h
  | ok d r1 =>
    rw [e] at h
    have h : GdI K T o W r σ H w (gl d r1) R := h
    refine fun v H1 w1 s1 t1 _ v1 => hR d r1 v H1 w1 s1 t1 v1 ?_
    revert h
    cases gl d r1 with
    | stk => exact fun h => h
    | ok ds r' => exact fun h J H' w' s2 t2 k2 => h J H' w' s2 (t1.trans t2) k2
    | ex c r' => exact fun h dd H' w' s2 t2 => h dd H' w' s2 (t1.trans t2)
  | ex c r1 => rw [e] at h; exact h
def lstO : D → Option (List D)
  | .lst ds => some ds
  | _ => none
def tupO : D → Option (List D)
  | .tup ds => some ds
  | _ => none
def strO : D → Option (List D)
  | .str s => some (s.map fun c => .str [c])
  | _ => none
def fIt (h : D → Option (List D)) (f : M D) : M (List D) := bnd f fun d => lif (h d)
theorem di_lst {tg : Expr} (he : DE X T o q .S e f) : DI X T o tg e (fIt lstO f) := ⟨fun W tk => by
  obtain ⟨t, p, ge⟩ := he.run W tk
  refine ⟨_, pi_list p, fun r σ H w R s h => ge r σ H w _ s (GdI.of h fun d r1 v H1 w1 s1 t1 v1 h1 => ?_)⟩
  cases d with
  | lst ds =>
    obtain ⟨a, vs, rfl, m, l⟩ := v1
    refine ⟨a, rfl, ⟨vs, .inl (.inl (s1.sub _ _ m (fun ps z => by cases z)))⟩, h1 _ H1 w1 s1 (Stp.refl _ _ _ _ _) fun i r2 σ2 H2 w2 s2 t2 => ?_⟩
    have m2 : SqL X.K H2 a vs := .inl (.inl (s2.sub _ _ (t2.grow _ _ m (fun ps z => by cases z)) (fun ps z => by cases z)))
    refine ⟨fun hi => ⟨vs, m2, by rw [← l.length]; exact hi⟩, fun d hd => ?_⟩
    obtain ⟨v, e1, e2⟩ := l.getD hd
    refine ⟨⟨vs, v, m2, e1⟩, fun x H' y => ?_⟩
    obtain ⟨rfl, y2⟩ := y
    have e3 := y2 vs m2
    rw [e1] at e3
    cases e3
    exact ⟨w2, s2, Stp.refl _ _ _ _ _, Rep.mono t2.grow _ _ e2⟩
  | _ => exact h1.elim⟩
theorem di_tup {tg : Expr} (he : DE X T o q .S e f) : DI X T o tg e (fIt tupO f) := ⟨fun W tk => by
  obtain ⟨t, p, ge⟩ := he.run W tk
  refine ⟨_, pi_tup p, fun r σ H w R s h => ge r σ H w _ s (GdI.of h fun d r1 v H1 w1 s1 t1 v1 h1 => ?_)⟩
  cases d with
  | tup ds =>
    obtain ⟨a, vs, rfl, m, l⟩ := v1
    refine ⟨a, rfl, ⟨vs, s1.sub.t m⟩, h1 _ H1 w1 s1 (Stp.refl _ _ _ _ _) fun i r2 σ2 H2 w2 s2 t2 => ?_⟩
    have m2 : SqT X.K H2 a vs := s2.sub.t (t2.grow.t m)
    refine ⟨fun hi => ⟨vs, m2, by rw [← l.length]; exact hi⟩, fun d hd => ?_⟩
    obtain ⟨v, e1, e2⟩ := l.getD hd
    refine ⟨⟨vs, v, m2, e1⟩, fun x H' y => ?_⟩
    obtain ⟨rfl, y2⟩ := y
    have e3 := y2 vs m2
    rw [e1] at e3
    cases e3
    exact ⟨w2, s2, Stp.refl _ _ _ _ _, Rep.mono t2.grow _ _ e2⟩
  | _ => exact h1.elim⟩
theorem di_str {tg : Expr} (he : DE X T o q .S e f) : DI X T o tg e (fIt strO f) := ⟨fun W tk => by
  obtain ⟨t, p, ge⟩ := he.run W tk
  refine ⟨_, pi_str p, fun r σ H w R s h => ge r σ H w _ s (GdI.of h fun d r1 v H1 w1 s1 t1 v1 h1 => ?_)⟩
  cases d with
  | str x =>
    refine ⟨_, v1, h1 _ H1 w1 s1 (Stp.refl _ _ _ _ _) fun i r2 σ2 H2 w2 s2 t2 => ?_⟩
    refine ⟨fun hi => (show x.toArray.size ≤ i by simpa using hi), fun d hd => ?_⟩
    rw [List.getElem?_map, Option.map_eq_some_iff] at hd
    obtain ⟨c, e1, rfl⟩ := hd
    refine ⟨(show i < x.toArray.size by rw [List.size_toArray]; exact (List.getElem?_eq_some_iff.mp e1).1), fun v H' y => ?_⟩
    obtain ⟨rfl, c', e2, rfl⟩ := y
    have e3 : x[i]? = some c' := by simpa using e2
    rw [e1] at e3
    cases e3
    exact ⟨w2, s2, Stp.refl _ _ _ _ _, rfl⟩
  | _ => exact h1.elim⟩
/-- lo, lo + 1, .. -/
def rngD (lo : Int) (n : Nat) : List D := (List.range n).map fun (j : Nat) => .int (lo + (j : Int))
theorem wk_rng {K : PySem.W.Frag} {r : Rho} {σ : L2.St} {H : Hp} {w : Wd} {lo : Int} {n : Nat} : Wk K T o r σ H w (Itr lo n) (rngD lo n) := fun i r2 σ2 H2 w2 s2 t2 => by
  refine ⟨fun hi => (show n ≤ i by simpa [rngD] using hi), fun d hd => ?_⟩
  simp only [rngD, List.getElem?_map, Option.map_eq_some_iff] at hd
  obtain ⟨j, e1, rfl⟩ := hd
  obtain ⟨hj, rfl⟩ := List.getElem?_eq_some_iff.mp e1
  refine ⟨(show i < n by simpa using hj), fun x H' y => ?_⟩
  obtain ⟨rfl, rfl⟩ := y
  exact ⟨w2, s2, Stp.refl _ _ _ _ _, by simp [Rep]⟩
def okI (i : Int) : Bool := decide (-(2 ^ 62) ≤ i ∧ i < 2 ^ 62)
def rg1D : List D → Option (List D)
  | [.int j] => if okI j then some (rngD 0 j.toNat) else none
  | _ => none
def rg2D : List D → Option (List D)
  | [.int i, .int j] => if okI i && okI j then some (rngD i (j - i).toNat) else none
  | _ => none
def fItA (h : List D → Option (List D)) (f : M (List D)) : M (List D) := bnd f fun d => lif (h d)
theorem di_rng1 {tg a : Expr} {p : Pos} (ha : DA X T o q [a] fl) (hm : X.mg "range" = none) (hg : Gl X "range" := by rfl) (hs : starEach [a] X.env = [(false, eval a X.env)] := by rfl) : DI X T o tg (.Call (.Name "range" p) [a] [] pos) (fItA rg1D fl) := ⟨fun W tk => by
  obtain ⟨t, pa, ge⟩ := ha.run W tk
  refine ⟨_, pi_range1 hg hm pa hs, fun r σ H w R s h => ge r σ H w _ s (GdI.of h fun ds r1 vs H1 w1 s1 t1 v1 h1 => ?_)⟩
  match ds, v1, h1 with
  | [.int j], ⟨v, _, e1, e2, e3⟩, h1 =>
    have h2 : GdI X.K T o W r1 σ H1 w1 (lif (if okI j then some (rngD 0 j.toNat) else none) r1) R := h1
    by_cases hj : okI j = true
    · rw [if_pos hj] at h2
      have hj' := of_decide_eq_true hj
      cases e2; subst e1 e3
      exact ⟨j, rfl, hj'.1, hj'.2, h2 _ H1 w1 s1 (Stp.refl _ _ _ _ _) wk_rng⟩
    · rw [if_neg hj] at h2; exact h2.elim
  | [], _, h1 => exact h1.elim
  | .non :: _, _, h1 => exact h1.elim
  | .bl _ :: _, _, h1 => exact h1.elim
  | .str _ :: _, _, h1 => exact h1.elim
  | .tup _ :: _, _, h1 => exact h1.elim
  | .lst _ :: _, _, h1 => exact h1.elim
  | .dct _ _ :: _, _, h1 => exact h1.elim
  | .obj _ _ :: _, _, h1 => exact h1.elim
  | .fn _ :: _, _, h1 => exact h1.elim
  | .scr _ :: _, _, h1 => exact h1.elim
  | .int _ :: _ :: _, _, h1 => exact h1.elim⟩
theorem di_rng2 {tg a b : Expr} {p : Pos} (ha : DA X T o q [a, b] fl) (hm : X.mg "range" = none) (hg : Gl X "range" := by rfl) (hs : starEach [a, b] X.env = [(false, eval a X.env), (false, eval b X.env)] := by rfl) (hs2 : starEach [b] X.env = [(false, eval b X.env)] := by rfl) : DI X T o tg (.Call (.Name "range" p) [a, b] [] pos) (fItA rg2D fl) := ⟨fun W tk => by
  obtain ⟨t, pa, ge⟩ := ha.run W tk
  refine ⟨_, pi_range2 hg hm pa hs hs2, fun r σ H w R s h => ge r σ H w _ s (GdI.of h fun ds r1 vs H1 w1 s1 t1 v1 h1 => ?_)⟩
  have key : ∃ i j, ds = [.int i, .int j] ∧ okI i = true ∧ okI j = true := by
    unfold rg2D lif at h1
    split at h1
    · rename_i e
      split at e
      · rename_i i j
        by_cases hh : (okI i && okI j) = true
        · exact ⟨i, j, rfl, by simpa using hh⟩
        · rw [if_neg hh] at e; cases e
      · cases e
    · exact h1.elim
  obtain ⟨i, j, rfl, hi, hj⟩ := key
  obtain ⟨v, _, e1, e2, v', _, e3, e4, e5⟩ := v1
  have h2 : GdI X.K T o W r1 σ H1 w1 (lif (if okI i && okI j then some (rngD i (j - i).toNat) else none) r1) R := h1
  rw [if_pos (by rw [hi, hj]; rfl)] at h2
  have hi' := of_decide_eq_true hi
  have hj' := of_decide_eq_true hj
  cases e2; cases e4; subst e1 e3 e5
  exact ⟨i, j, rfl, ⟨hi'.1, hi'.2, hj'.1, hj'.2⟩, h2 _ H1 w1 s1 (Stp.refl _ _ _ _ _) wk_rng⟩⟩
end
end Mir

set_option Elab.async false
set_option linter.all false
set_option maxRecDepth 100000
set_option maxHeartbeats 1000000
namespace Mir
open PySem L2
/-! ### defs -/
def startR (n : Nat) (ds : List D) : Rho := ds.map some ++ List.replicate (n - ds.length) none
def runB (n : Nat) (body : Rho → Fl) (ds : List D) : Out D := match body (startR n ds) with
  | .nx r => .ok .non r
  | .rt d r => .ok d r
  | .ex c r => .ex c r
  | _ => .stk
def GdF (K : PySem.W.Frag) (T : Tb) (o : Modes) (kr : Kd) (r : Rho) (σ : L2.St) (H : Hp) (w : Wd) (x : Out D) (Q : VK) (E : XK) : Prop := match x with
  | .stk => False
  | .ok d r' => ∀ v σ' H' w', SR K T o r' σ' H' w' → Stp o r σ H w r' σ' H' w' → RV K T o kr H w w' H' d v → Q v H'
  | .ex c r' => ∀ dd σ' H' w', SR K T o r' σ' H' w' → Stp o r σ H w r' σ' H' w' → E (.ref (T.exc c)) dd H'
/-- what a def promises -/
def spD (K : PySem.W.Frag) (T : Tb) (N : List Str) (np : Nat) (o : Modes) (kr : Kd) (m : List D → Out D) : Sp := fun vs H Q E => ∃ ds w, vs.length = np ∧ ds.length = np ∧ np ≤ N.length ∧ SR K T o (startR N.length ds) (start N vs) H w ∧ GdF K T o kr (startR N.length ds) (start N vs) H w (m ds) Q E
section
variable {P : Program} {w : World} {K : PySem.W.Frag} {mg : Str → Option Value} {base : Heap} {T : Tb}
/-- a def keeps its promise: by its body -/
theorem fn_D {x qual : Str} {st : Stmt} {f : Addr} {fd : FuncData} {N ps : List Str} {k np : Nat} {o : Modes} {kr : Kd} {body : Rho → Fl} (F : Fun K x qual st f fd) (S : FnScope N ps (defScope st)) (hp : ps.length = np) (hk : kr = .S ∨ kr = .F)
    (hbody : ∀ (cdv : Value) (A : Around) (outer : List Env) (s : Shared) (H : Hp) (E : XK), Room k (A.deeper (PyProof.Rows.envOfC qual (defScope st) s.heap.objs.size f cdv)) →
      DSs (cxOf (L2.CX P w) P w K mg base N qual (defScope st) f cdv A outer s H E) T o kr (defBody st) body) : FnOk P w K mg base (L2.CX P w) (k + 1) f fd ps (spD K T N np o kr (runB N.length body)) := by
  refine F.okX S (fun vs H Q E h => ?_) fun cdv A outer s H vs Q E hr h => ?_
  · obtain ⟨ds, w, e, _⟩ := h
    rw [e, hp]
  · obtain ⟨ds, w1, e1, e2, e3, s1, g⟩ := h
    obtain ⟨t, p, run⟩ := (hbody cdv A outer s H E hr).run (fun cls d _ H' => E cls d H') (takes_of rfl rfl rfl rfl)
    refine ⟨t, p, run _ _ H w1 _ s1 ?_⟩
    show GdS K T o kr _ (startR N.length ds) (start N vs) H w1 (body (startR N.length ds)) _
    unfold runB at g
    cases eb : body (startR N.length ds) with
    | stk => rw [eb] at g; exact g
    | nx r =>
      rw [eb] at g
      refine fun σ' H' w' a b => g .non σ' H' w' a b ?_
      rcases hk with rfl | rfl
      · exact (rfl : V.non = V.non)
      · exact ⟨[], ⟨rfl, rfl⟩, List.nodup_nil, fun a ha => by simp at ha⟩
    | rt d r => rw [eb] at g; exact g
    | bk r => rw [eb] at g; exact g.elim
    | ct r => rw [eb] at g; exact g.elim
    | ex c r => rw [eb] at g; exact g
end
/-! ### arguments, some by reference -/
def RepR (K : PySem.W.Frag) (G : Hp) (σ : L2.St) : List (Option Nat) → List D → List V → Prop
  | [], ds, vs => ds = [] ∧ vs = []
  | none :: as, ds, vs => ∃ d ds' v vs', ds = d :: ds' ∧ vs = v :: vs' ∧ Rep K G d v ∧ RepR K G σ as ds' vs'
  | some i :: as, ds, vs => ∃ ds' v vs', ds = .non :: ds' ∧ vs = v :: vs' ∧ σ[i]? = some (some v) ∧ RepR K G σ as ds' vs'
theorem RepR.mono {K : PySem.W.Frag} {G G' : Hp} {σ : L2.St} (h : Sub G G') : ∀ {as : List (Option Nat)} {ds : List D} {vs : List V}, RepR K G σ as ds vs → RepR K G' σ as ds vs
  | [], ds, vs, r => r
  | none :: as, ds, vs, ⟨d, ds', v, vs', e1, e2, r1, r2⟩ => ⟨d, ds', v, vs', e1, e2, Rep.mono h _ _ r1, r2.mono h⟩
  | some i :: as, ds, vs, ⟨ds', v, vs', e1, e2, r1, r2⟩ => ⟨ds', v, vs', e1, e2, r1, r2.mono h⟩
theorem RepR.len {K : PySem.W.Frag} {G : Hp} {σ : L2.St} : ∀ {as : List (Option Nat)} {ds : List D} {vs : List V}, RepR K G σ as ds vs → ds.length = as.length ∧ vs.length = as.length
  | [], ds, vs, ⟨e1, e2⟩ => by subst e1 e2; exact ⟨rfl, rfl⟩
  | none :: as, ds, vs, ⟨d, ds', v, vs', e1, e2, r1, r2⟩ => by subst e1 e2; have := r2.len; simp [this.1, this.2]
  | some i :: as, ds, vs, ⟨ds', v, vs', e1, e2, r1, r2⟩ => by subst e1 e2; have := r2.len; simp [this.1, this.2]
theorem RepR.val {K : PySem.W.Frag} {G : Hp} {σ : L2.St} : ∀ {as : List (Option Nat)} {ds : List D} {vs : List V} {j : Nat}, RepR K G σ as ds vs → as[j]? = some none → ∃ d v, ds[j]? = some d ∧ vs[j]? = some v ∧ Rep K G d v
  | [], ds, vs, j, _, e => by simp at e
  | none :: as, ds, vs, j, ⟨d, ds', v, vs', e1, e2, r1, r2⟩, e => by
    subst e1 e2
    cases j with
    | zero => exact ⟨d, v, rfl, rfl, r1⟩
    | succ j => exact r2.val (j := j) (by simpa using e)
  | some i :: as, ds, vs, j, ⟨ds', v, vs', e1, e2, r1, r2⟩, e => by
    subst e1 e2
    cases j with
    | zero => simp at e
    | succ j => exact r2.val (j := j) (by simpa using e)
theorem RepR.ref {K : PySem.W.Frag} {G : Hp} {σ : L2.St} : ∀ {as : List (Option Nat)} {ds : List D} {vs : List V} {j i : Nat}, RepR K G σ as ds vs → as[j]? = some (some i) → ∃ v, vs[j]? = some v ∧ σ[i]? = some (some v)
  | [], ds, vs, j, i, _, e => by simp at e
  | none :: as, ds, vs, j, i, ⟨d, ds', v, vs', e1, e2, r1, r2⟩, e => by
    subst e1 e2
    cases j with
    | zero => simp at e
    | succ j => exact r2.ref (j := j) (by simpa using e)
  | some i' :: as, ds, vs, j, i, ⟨ds', v, vs', e1, e2, r1, r2⟩, e => by
    subst e1 e2
    cases j with
    | zero => simp at e; subst e; exact ⟨v, rfl, r1⟩
    | succ j => exact r2.ref (j := j) (by simpa using e)
def vR (K : PySem.W.Frag) (σ : L2.St) (as : List (Option Nat)) : VR (List D) (List V) := fun _ w' _ ds vs => RepR K w'.G σ as ds vs
theorem vR_back {K : PySem.W.Frag} {σ : L2.St} {as : List (Option Nat)} : BackV (vR K σ as) := fun _ _ _ _ _ _ _ x => x
structure DR (X : Cx) (T : Tb) (o : Modes) (q : Bool) (es : List Expr) (as : List (Option Nat)) (f : M (List D)) : Prop where
  run : ∀ W, Takes X W → ∃ t, PA X es t ∧ ∀ r σ H w Q, SR X.K T o r σ H w → Gd X.K T o q (vR X.K σ as) W r σ H w (f r) Q → t σ H Q
def fRef (i : Nat) (g : M (List D)) : M (List D) := fun r => match r[i]? with
  | some (some _) => bnd g (fun ds => fun r => .ok (.non :: ds) r) r
  | _ => .stk
section
variable {X : Cx} {T : Tb} {o : Modes} {q qa qb : Bool} {kr : Kd} {e : Expr} {es : List Expr} {pos : Pos} {f : M D} {fl : M (List D)} {as : List (Option Nat)}
theorem dr_nil : DR X T o true [] [] fNil := ⟨fun W _ => ⟨_, pa_nil, fun r σ H w Q s g => g.end s ⟨rfl, rfl⟩⟩⟩
theorem dr_val (h : DE X T o qa .S e f) (hr : DR X T o qb es as fl) (hs : starEach (e :: es) X.env = (false, eval e X.env) :: starEach es X.env := by rfl) : DR X T o (qa && qb) (e :: es) (none :: as) (fCons f fl) := ⟨fun W tk => by
  obtain ⟨ta, pa, ga⟩ := h.run W tk
  obtain ⟨tb, pb, gb⟩ := hr.run W tk
  refine ⟨_, pa_cons pa pb hs, fun r σ H w Q s g => ga r σ H w _ s (Gd.fst vR_back g (q1 := qa) (q2 := qb) (by simp) fun d r1 v H1 w1 z1 s1 t1 q1 v1 g1 => ?_)⟩
  refine gb r1 σ H1 w1 _ s1 (Gd.fst vR_back g1 (q1 := qb) (q2 := true) (fun z => ⟨z, rfl⟩) fun ds r2 vs H2 w2 z2 s2 t2 q2 v2 g2 => ?_)
  exact g2.end s2 ⟨d, ds, v, vs, rfl, rfl, Rep.mono t2.grow _ _ v1, v2⟩⟩
theorem dr_ref {i : Nat} {x : Str} {p : Pos} (hr : DR X T o qb es as fl) (hm : mode o i ≠ 0 := by decide) (hN : X.N[i]? = some x := by rfl) (hv : Vis X.env.scope x := by first | exact Or.inl rfl | exact Or.inr (Or.inl rfl) | exact Or.inr (Or.inr rfl)) (hd : (x == ("__debug__" : Str)) = false := by decide)
    (hcd : (x == ("__classdict__" : Str)) = false := by decide) (hs : starEach (.Name x p :: es) X.env = (false, eval (.Name x p) X.env) :: starEach es X.env := by rfl) : DR X T o qb (.Name x p :: es) (some i :: as) (fRef i fl) := ⟨fun W tk => by
  obtain ⟨tb, pb, gb⟩ := hr.run W tk
  refine ⟨_, pa_cons (pe_var hN hv hd hcd) pb hs, fun r σ H w Q s g => ?_⟩
  unfold fRef at g
  split at g
  · rename_i d ei
    obtain ⟨v, e1, e2⟩ := s.val i d ei
    refine ⟨v, e1, ?_⟩
    refine gb r σ H w _ s (Gd.fst vR_back g (q1 := qb) (q2 := true) (fun z => ⟨z, rfl⟩) fun ds r2 vs H2 w2 z2 s2 t2 q2 v2 g2 => ?_)
    exact g2.end s2 ⟨ds, v, vs, rfl, rfl, e1, v2⟩
  · exact g.elim⟩
end
/-- the callee's arguments -/
def fillD : List (Option Nat) → List D → Rho → Option (List D)
  | none :: as, d :: ds, r => (fillD as ds r).map (d :: ·)
  | some i :: as, _ :: ds, r => match r[i]? with
    | some (some d) => (fillD as ds r).map (d :: ·)
    | _ => none
  | [], [], _ => some []
  | _, _, _ => none
/-- the caller's slots behind -/
def backD : List (Option Nat) → Nat → Rho → Rho → Rho
  | [], _, _, r => r
  | none :: as, j, r2, r => backD as (j + 1) r2 r
  | some i :: as, j, r2, r => backD as (j + 1) r2 (r.set i ((r2[j]?).getD none))
def fCall (as : List (Option Nat)) (m : List D → Out D) (f : M (List D)) : M D := bnd f fun ds r => match fillD as ds r with
  | none => .stk
  | some dd => match m dd with
    | .stk => .stk
    | .ok d r2 => .ok d (backD as 0 r2 r)
    | .ex c r2 => .ex c (backD as 0 r2 r)
/-- which of the callee's slots stands for slot i -/
def refAt (as : List (Option Nat)) (i : Nat) : Option Nat := as.findIdx? (· == some i)
/-- the references go to different slots; the callee's modes fit -/
def fitM (o oc : Modes) (as : List (Option Nat)) : Bool :=
  decide ((as.filterMap id).Nodup) && (List.range (max as.length oc.length)).all fun j => match as[j]? with
    | some (some i) => (mode oc j == 2 && mode o i != 0) || (mode oc j == 3 && mut' (mode o i))
    | some none => mode oc j == 0
    | none => mode oc j == 0 || mode oc j == 1
section
variable {o oc : Modes} {as : List (Option Nat)}
theorem fit_ref (h : fitM o oc as = true) {j i : Nat} (e : as[j]? = some (some i)) : (mode oc j = 2 ∧ mode o i ≠ 0) ∨ (mode oc j = 3 ∧ mut' (mode o i) = true) := by
  have hj : j < as.length := (List.getElem?_eq_some_iff.mp e).1
  simp only [fitM, Bool.and_eq_true, List.all_eq_true, List.mem_range] at h
  have := h.2 j (by omega)
  rw [e] at this
  simpa using this
theorem fit_val (h : fitM o oc as = true) {j : Nat} (e : as[j]? = some none) : mode oc j = 0 := by
  have hj : j < as.length := (List.getElem?_eq_some_iff.mp e).1
  simp only [fitM, Bool.and_eq_true, List.all_eq_true, List.mem_range] at h
  have := h.2 j (by omega)
  rw [e] at this
  simpa using this
theorem fit_loc (h : fitM o oc as = true) {j : Nat} (e : as[j]? = none) : mode oc j = 0 ∨ mode oc j = 1 := by
  by_cases hj : j < oc.length
  · simp only [fitM, Bool.and_eq_true, List.all_eq_true, List.mem_range] at h
    have := h.2 j (by omega)
    rw [e] at this
    simpa using this
  · left; unfold mode; rw [List.getD_eq_getElem?_getD, List.getElem?_eq_none (by omega)]; rfl
theorem nodup_ref : ∀ {as : List (Option Nat)} {j k i : Nat}, (as.filterMap id).Nodup → as[j]? = some (some i) → as[k]? = some (some i) → j = k
  | [], j, k, i, _, e, _ => by simp at e
  | none :: as, j, k, i, h, e1, e2 => by
    cases j with
    | zero => simp at e1
    | succ j =>
      cases k with
      | zero => simp at e2
      | succ k => rw [nodup_ref (as := as) (j := j) (k := k) (i := i) (by simpa using h) (by simpa using e1) (by simpa using e2)]
  | some a :: as, j, k, i, h, e1, e2 => by
    have h' : a ∉ as.filterMap id ∧ (as.filterMap id).Nodup := by simpa using h
    have mem : ∀ l, as[l]? = some (some i) → i ∈ as.filterMap id := fun l e => List.mem_filterMap.mpr ⟨some i, List.mem_of_getElem? e, rfl⟩
    cases j with
    | zero =>
      cases k with
      | zero => rfl
      | succ k =>
        simp at e1 e2
        subst e1
        exact absurd (mem k e2) h'.1
    | succ j =>
      cases k with
      | zero =>
        simp at e1 e2
        subst e2
        exact absurd (mem j e1) h'.1
      | succ k => rw [nodup_ref (as := as) (j := j) (k := k) (i := i) h'.2 (by simpa using e1) (by simpa using e2)]
theorem fit_nodup (h : fitM o oc as = true) {j k i : Nat} (e1 : as[j]? = some (some i)) (e2 : as[k]? = some (some i)) : j = k := by
  simp only [fitM, Bool.and_eq_true] at h
  exact nodup_ref (of_decide_eq_true h.1) e1 e2
theorem refAt_some {i j : Nat} (h : refAt as i = some j) : as[j]? = some (some i) := by
  unfold refAt at h
  rw [List.findIdx?_eq_some_iff_getElem] at h
  obtain ⟨hj, e, _⟩ := h
  rw [List.getElem?_eq_getElem hj]
  simpa using e
theorem refAt_none {i : Nat} (h : refAt as i = none) {j : Nat} : as[j]? ≠ some (some i) := by
  unfold refAt at h
  rw [List.findIdx?_eq_none_iff] at h
  intro e
  have := h _ (List.mem_of_getElem? e)
  simp at this
theorem fillD_val : ∀ {as : List (Option Nat)} {ds dd : List D} {r : Rho} {j : Nat}, fillD as ds r = some dd → as[j]? = some none → dd[j]? = ds[j]?
  | [], [], dd, r, j, h, e => by simp at e
  | [], d :: ds, dd, r, j, h, e => by simp at e
  | none :: as, [], dd, r, j, h, e => by simp [fillD] at h
  | some i :: as, [], dd, r, j, h, e => by simp [fillD] at h
  | none :: as, d :: ds, dd, r, j, h, e => by
    simp only [fillD, Option.map_eq_some_iff] at h
    obtain ⟨x, h1, rfl⟩ := h
    cases j with
    | zero => rfl
    | succ j => simpa using fillD_val (j := j) h1 (by simpa using e)
  | some i :: as, d :: ds, dd, r, j, h, e => by
    simp only [fillD] at h
    split at h
    · simp only [Option.map_eq_some_iff] at h
      obtain ⟨x, h1, rfl⟩ := h
      cases j with
      | zero => simp at e
      | succ j => simpa using fillD_val (j := j) h1 (by simpa using e)
    · cases h
theorem fillD_ref : ∀ {as : List (Option Nat)} {ds dd : List D} {r : Rho} {j i : Nat}, fillD as ds r = some dd → as[j]? = some (some i) → ∃ d, r[i]? = some (some d) ∧ dd[j]? = some d
  | [], [], dd, r, j, i, h, e => by simp at e
  | [], d :: ds, dd, r, j, i, h, e => by simp at e
  | none :: as, [], dd, r, j, i, h, e => by simp [fillD] at h
  | some i' :: as, [], dd, r, j, i, h, e => by simp [fillD] at h
  | none :: as, d :: ds, dd, r, j, i, h, e => by
    simp only [fillD, Option.map_eq_some_iff] at h
    obtain ⟨x, h1, rfl⟩ := h
    cases j with
    | zero => simp at e
    | succ j => simpa using fillD_ref (j := j) h1 (by simpa using e)
  | some i' :: as, d :: ds, dd, r, j, i, h, e => by
    simp only [fillD] at h
    split at h
    · rename_i d' ed
      simp only [Option.map_eq_some_iff] at h
      obtain ⟨x, h1, rfl⟩ := h
      cases j with
      | zero => simp at e; subst e; exact ⟨d', ed, rfl⟩
      | succ j => simpa using fillD_ref (j := j) h1 (by simpa using e)
    · cases h
theorem fillD_len : ∀ {as : List (Option Nat)} {ds dd : List D} {r : Rho}, fillD as ds r = some dd → dd.length = as.length
  | [], [], dd, r, h => by simp [fillD] at h; subst h; rfl
  | [], d :: ds, dd, r, h => by simp [fillD] at h
  | none :: as, [], dd, r, h => by simp [fillD] at h
  | some i' :: as, [], dd, r, h => by simp [fillD] at h
  | none :: as, d :: ds, dd, r, h => by
    simp only [fillD, Option.map_eq_some_iff] at h
    obtain ⟨x, h1, rfl⟩ := h
    simp [fillD_len h1]
  | some i' :: as, d :: ds, dd, r, h => by
    simp only [fillD] at h
    split at h
    · simp only [Option.map_eq_some_iff] at h
      obtain ⟨x, h1, rfl⟩ := h
      simp [fillD_len h1]
    · cases h
theorem backD_len : ∀ (as : List (Option Nat)) (j : Nat) (r2 r : Rho), (backD as j r2 r).length = r.length
  | [], _, _, _ => rfl
  | none :: as, j, r2, r => backD_len as (j + 1) r2 r
  | some i :: as, j, r2, r => by rw [backD, backD_len as (j + 1)]; simp
theorem backD_out : ∀ (as : List (Option Nat)) (j : Nat) (r2 r : Rho) (i : Nat), (∀ k : Nat, as[k]? ≠ some (some i)) → (backD as j r2 r)[i]? = r[i]?
  | [], _, _, _, _, _ => rfl
  | none :: as, j, r2, r, i, h => backD_out as (j + 1) r2 r i fun k => by simpa using h (k + 1)
  | some a :: as, j, r2, r, i, h => by
    rw [backD, backD_out as (j + 1) r2 _ i fun k => by simpa using h (k + 1)]
    have n : a ≠ i := fun z => h 0 (by simp [z])
    rw [List.getElem?_set, if_neg n]
theorem backD_in : ∀ (as : List (Option Nat)) (j : Nat) (r2 r : Rho) (i k : Nat), (as.filterMap id).Nodup → as[k]? = some (some i) → i < r.length → (backD as j r2 r)[i]? = some ((r2[j + k]?).getD none)
  | [], _, _, _, _, _, _, e, _ => by simp at e
  | none :: as, j, r2, r, i, k, h, e, hi => by
    cases k with
    | zero => simp at e
    | succ k =>
      rw [backD, backD_in as (j + 1) r2 r i k (by simpa using h) (by simpa using e) hi]
      rw [show j + 1 + k = j + (k + 1) by omega]
  | some a :: as, j, r2, r, i, k, h, e, hi => by
    have h' : a ∉ as.filterMap id ∧ (as.filterMap id).Nodup := by simpa using h
    cases k with
    | zero =>
      simp at e
      subst e
      rw [backD, backD_out as (j + 1) r2 _ a fun l hl => h'.1 (List.mem_filterMap.mpr ⟨some a, List.mem_of_getElem? hl, rfl⟩)]
      rw [List.getElem?_set, if_pos rfl, if_pos hi]
      rfl
    | succ k =>
      rw [backD, backD_in as (j + 1) r2 _ i k h'.2 (by simpa using e) (by simpa using hi)]
      rw [show j + 1 + k = j + (k + 1) by omega]
end
theorem startR_get {n : Nat} {ds : List D} {j : Nat} {d : D} (h : (startR n ds)[j]? = some (some d)) : ds[j]? = some d := by
  unfold startR at h
  by_cases hj : j < ds.length
  · rw [List.getElem?_append_left (by simpa using hj), List.getElem?_map] at h
    simpa using h
  · rw [List.getElem?_append_right (by simpa using hj), List.getElem?_replicate] at h
    split at h <;> cases h
theorem startR_at {n : Nat} {ds : List D} {j : Nat} {d : D} (h : ds[j]? = some d) : (startR n ds)[j]? = some (some d) := by
  have hj : j < ds.length := (List.getElem?_eq_some_iff.mp h).1
  unfold startR
  rw [List.getElem?_append_left (by simpa using hj), List.getElem?_map, h]
  rfl
theorem start_at {N : List Str} {vs : List V} {j : Nat} {v : V} (h : vs[j]? = some v) : (start N vs)[j]? = some (some v) := by
  have hj : j < vs.length := (List.getElem?_eq_some_iff.mp h).1
  unfold L2.start
  rw [List.getElem?_append_left (by simpa using hj), List.getElem?_map, h]
  rfl
section
variable {K : PySem.W.Frag} {T : Tb} {o oc : Modes} {as : List (Option Nat)} {N : List Str} {r r2 : Rho} {σ σ2 : L2.St} {H H2 : Hp} {w w2 : Wd} {ds dd : List D} {vs : List V}
/-- the callee's world -/
def wIn (as : List (Option Nat)) (w : Wd) : Wd := ⟨w.G, fun j => match as[j]? with
  | some (some i) => w.fp i
  | _ => []⟩
/-- the caller's, behind -/
def wOut (as : List (Option Nat)) (w w2 : Wd) : Wd := ⟨w2.G, fun i => match refAt as i with
  | some j => w2.fp j
  | none => w.fp i⟩
theorem wIn_mem {j : Nat} {a : Addr} (h : a ∈ (wIn as w).fp j) : ∃ i, as[j]? = some (some i) ∧ a ∈ w.fp i := by
  have h' : a ∈ (match as[j]? with | some (some i) => w.fp i | _ => []) := h
  split at h'
  · rename_i i e; exact ⟨i, e, h'⟩
  · simp at h'
theorem wIn_at {j i : Nat} (e : as[j]? = some (some i)) : (wIn as w).fp j = w.fp i := by
  show (match as[j]? with | some (some i) => w.fp i | _ => []) = _
  rw [e]
theorem wOut_at {j i : Nat} (e : refAt as i = some j) : (wOut as w w2).fp i = w2.fp j := by
  show (match refAt as i with | some j => w2.fp j | none => w.fp i) = _
  rw [e]
theorem wOut_no {i : Nat} (e : refAt as i = none) : (wOut as w w2).fp i = w.fp i := by
  show (match refAt as i with | some j => w2.fp j | none => w.fp i) = _
  rw [e]
theorem call_in (hf : fitM o oc as = true) (s : SR K T o r σ H w) (hr : RepR K w.G σ as ds vs) (hd : fillD as ds r = some dd) : SR K T oc (startR N.length dd) (start N vs) H (wIn as w) := by
  have hl := hr.len
  have hl2 := fillD_len hd
  refine ⟨s.sub, s.gtab, fun j d e => ?_, fun j a h => ?_, fun j a h => ?_, fun j k a h1 h2 => ?_, fun j => ?_, fun j a ps h => ?_, s.tab, ?_⟩
  · have e1 := startR_get e
    have hj : j < as.length := by rw [← hl2]; exact (List.getElem?_eq_some_iff.mp e1).1
    have ea : as[j]? = some as[j] := List.getElem?_eq_getElem hj
    cases ha : as[j] with
    | none =>
      rw [ha] at ea
      obtain ⟨d', v, e2, e3, e4⟩ := hr.val ea
      rw [fillD_val hd ea, e2] at e1
      cases e1
      exact ⟨v, start_at e3, by rw [if_pos (fit_val hf ea)]; exact e4⟩
    | some i =>
      rw [ha] at ea
      obtain ⟨v, e2, e3⟩ := hr.ref ea
      obtain ⟨d', e4, e5⟩ := fillD_ref hd ea
      rw [e5] at e1
      cases e1
      obtain ⟨v', e6, e7⟩ := s.val i _ e4
      rw [e3] at e6
      cases e6
      have n0 : mode oc j ≠ 0 := by
        rcases fit_ref hf ea with h | h
        · rw [h.1]; decide
        · rw [h.1]; decide
      have n1 : mode o i ≠ 0 := by
        rcases fit_ref hf ea with h | h
        · exact h.2
        · intro z; rw [z] at h; exact absurd h.2 (by decide)
      rw [if_neg n1] at e7
      exact ⟨v, start_at e2, by rw [if_neg n0, wIn_at ea]; exact e7⟩
  · obtain ⟨i, _, m⟩ := wIn_mem h
    exact s.off i a m
  · obtain ⟨i, _, m⟩ := wIn_mem h
    exact s.live i a m
  · obtain ⟨i, e1, m1⟩ := wIn_mem h1
    obtain ⟨i', e2, m2⟩ := wIn_mem h2
    have := s.dis i i' a m1 m2
    subst this
    exact fit_nodup hf e1 e2
  · show (match as[j]? with | some (some i) => w.fp i | _ => []).Nodup
    split
    · exact s.nd _
    · exact List.nodup_nil
  · obtain ⟨i, _, m⟩ := wIn_mem h
    exact s.ntab i a ps m
  · unfold L2.start startR
    simp only [List.length_append, List.length_map, List.length_replicate]
    omega
theorem call_mv (hf : fitM o oc as = true) {a : Addr} (h : Mv oc (wIn as w) a) : False := by
  obtain ⟨j, e, m⟩ := h
  obtain ⟨i, e1, _⟩ := wIn_mem m
  rcases fit_ref hf e1 with h | h
  · rw [h.1] at e; cases e
  · rw [h.1] at e; cases e
theorem call_mu (hf : fitM o oc as = true) {a : Addr} (h : Mu oc (wIn as w) a) : Mu o w a ∧ ∃ j, mode oc j = 3 := by
  obtain ⟨j, e, m⟩ := h
  obtain ⟨i, e1, m1⟩ := wIn_mem m
  rcases fit_ref hf e1 with h | h
  · rw [h.1] at e; cases e
  · exact ⟨⟨i, h.2, m1⟩, j, h.1⟩
/-- the heap at nodes of slots that were not given -/
theorem call_same (hf : fitM o oc as = true) (s : SR K T o r σ H w) (t : Stp oc (startR N.length dd) (start N vs) H (wIn as w) r2 σ2 H2 w2) {i : Nat} (hi : refAt as i = none) {a : Addr} (h : a ∈ w.fp i) : H2 a = H a := by
  cases e : H a with
  | none => exact absurd e (s.live i a h)
  | some u =>
    refine t.keep a u e (fun ps z => s.ntab i a ps h (by rw [e, z])) fun ⟨j, _, m⟩ => ?_
    obtain ⟨i', e1, m1⟩ := wIn_mem m
    have := s.dis i i' a h m1
    subst this
    exact refAt_none hi e1
theorem call_out (hf : fitM o oc as = true) (s : SR K T o r σ H w) (hr : RepR K w.G σ as ds vs) (hd : fillD as ds r = some dd) (s2 : SR K T oc r2 σ2 H2 w2) (t : Stp oc (startR N.length dd) (start N vs) H (wIn as w) r2 σ2 H2 w2) :
    SR K T o (backD as 0 r2 r) σ H2 (wOut as w w2) ∧ Stp o r σ H w (backD as 0 r2 r) σ H2 (wOut as w w2) := by
  have nd : (as.filterMap id).Nodup := by
    simp only [fitM, Bool.and_eq_true] at hf
    exact of_decide_eq_true hf.1
  have hout : ∀ i, refAt as i = none → (backD as 0 r2 r)[i]? = r[i]? := fun i h => backD_out as 0 r2 r i fun k => refAt_none h
  have newG : ∀ a, w2.G a ≠ none → w.G a ≠ none ∨ H a = none := fun a h => by
    rcases t.newG a h with h | h | h
    · exact .inl h
    · exact .inr h
    · exact (call_mv hf h).elim
  have fpo : ∀ i a, a ∈ (wOut as w w2).fp i → (∃ j, refAt as i = some j ∧ as[j]? = some (some i) ∧ a ∈ w2.fp j ∧ (H a = none ∨ a ∈ w.fp i)) ∨ (refAt as i = none ∧ a ∈ w.fp i) := fun i a h => by
    cases e : refAt as i with
    | none => rw [wOut_no e] at h; exact .inr ⟨rfl, h⟩
    | some j =>
      rw [wOut_at e] at h
      have ej := refAt_some e
      refine .inl ⟨j, rfl, ej, h, ?_⟩
      rcases t.fps j a h with h | h | h
      · exact .inl h
      · exact (call_mv hf h).elim
      · rw [wIn_at ej] at h; exact .inr h
  have mem0 : ∀ i a, a ∈ w.fp i → H a ≠ none := s.live
  refine ⟨⟨s2.sub, s2.gtab, fun i d e => ?_, fun i a h => ?_, fun i a h => ?_, fun i k a h1 h2 => ?_, fun i => ?_, fun i a ps h => ?_, s2.tab, by rw [backD_len]; exact s.len⟩, ⟨rfl, backD_len _ _ _ _, t.grow, fun a h => ?_, fun a u e n m => t.keep a u e n fun z => m (call_mu hf z).1, t.alive, fun i a h => ?_, fun i h => ?_, fun _ _ => rfl, t.kext⟩⟩
  · cases ei : refAt as i with
    | none =>
      rw [hout i ei] at e
      obtain ⟨v, e1, e2⟩ := s.val i d e
      refine ⟨v, e1, ?_⟩
      split at e2
      · rename_i hm; rw [if_pos hm]; exact Rep.mono t.grow _ _ e2
      · rename_i hm
        rw [if_neg hm, wOut_no ei]
        exact MRep.keep t.grow _ _ _ e2 fun a ha => call_same hf s t ei ha
    | some j =>
      have ej := refAt_some ei
      obtain ⟨d0, e4, e5⟩ := fillD_ref hd ej
      have hi : i < r.length := (List.getElem?_eq_some_iff.mp e4).1
      rw [backD_in as 0 r2 r i j nd ej hi] at e
      have e' : r2[j]? = some (some d) := by
        rw [Nat.zero_add] at e
        cases ez : r2[j]? with
        | none => rw [ez] at e; cases e
        | some x => rw [ez] at e; cases e; rfl
      obtain ⟨v, e1, e2⟩ := s2.val j d e'
      have m2 : 2 ≤ mode oc j := by
        rcases fit_ref hf ej with h | h
        · rw [h.1]; decide
        · rw [h.1]; decide
      rw [t.bind j m2] at e1
      obtain ⟨v', e6, e7⟩ := hr.ref ej
      rw [start_at e6] at e1
      cases e1
      have n1 : mode o i ≠ 0 := by
        rcases fit_ref hf ej with h | h
        · exact h.2
        · intro z; rw [z] at h; exact absurd h.2 (by decide)
      rw [if_neg (by intro z; rw [z] at m2; exact absurd m2 (by decide))] at e2
      exact ⟨v, e7, by rw [if_neg n1, wOut_at ei]; exact e2⟩
  · rcases fpo i a h with ⟨j, ei, ej, m, _⟩ | ⟨ei, m⟩
    · exact s2.off j a m
    · cases z : w2.G a with
      | none => exact z
      | some u =>
        rcases newG a (by rw [z]; simp) with h | h
        · exact absurd (s.off i a m) h
        · exact absurd h (mem0 i a m)
  · rcases fpo i a h with ⟨j, ei, ej, m, _⟩ | ⟨ei, m⟩
    · exact s2.live j a m
    · exact t.alive a (mem0 i a m)
  · rcases fpo i a h1 with ⟨j, ei, ej, m, z⟩ | ⟨ei, m⟩
    · rcases fpo k a h2 with ⟨j', ei', ej', m', z'⟩ | ⟨ei', m'⟩
      · have := s2.dis j j' a m m'
        subst this
        rw [ej] at ej'
        cases ej'
        rfl
      · rcases z with z | z
        · exact absurd z (mem0 k a m')
        · exact s.dis i k a z m'
    · rcases fpo k a h2 with ⟨j', ei', ej', m', z'⟩ | ⟨ei', m'⟩
      · rcases z' with z | z
        · exact absurd z (mem0 i a m)
        · exact s.dis i k a m z
      · exact s.dis i k a m m'
  · cases ei : refAt as i with
    | none => rw [wOut_no ei]; exact s.nd i
    | some j => rw [wOut_at ei]; exact s2.nd j
  · rcases fpo i a h with ⟨j, ei, ej, m, _⟩ | ⟨ei, m⟩
    · exact s2.ntab j a ps m
    · rw [call_same hf s t ei m]; exact s.ntab i a ps m
  · rcases newG a h with h | h
    · exact .inl h
    · exact .inr (.inl h)
  · rcases fpo i a h with ⟨j, ei, ej, m, z⟩ | ⟨ei, m⟩
    · rcases z with z | z
      · exact .inl z
      · exact .inr (.inr z)
    · exact .inr (.inr m)
  · cases ei : refAt as i with
    | none => exact ⟨hout i ei, wOut_no ei⟩
    | some j =>
      have ej := refAt_some ei
      obtain ⟨d0, e4, e5⟩ := fillD_ref hd ej
      have hi : i < r.length := (List.getElem?_eq_some_iff.mp e4).1
      have m2 : mode oc j = 2 := by
        rcases fit_ref hf ej with z | z
        · exact z.1
        · rw [h] at z; exact absurd z.2 (by decide)
      obtain ⟨f1, f2⟩ := t.fix j m2
      refine ⟨?_, ?_⟩
      · rw [backD_in as 0 r2 r i j nd ej hi, Nat.zero_add, f1, startR_at e5, e4]
        rfl
      · rw [wOut_at ei, f2, wIn_at ej]
theorem call_val {kr : Kd} {d : D} {v : V} (hf : fitM o oc as = true) (s : SR K T o r σ H w) (t : Stp oc (startR N.length dd) (start N vs) H (wIn as w) r2 σ2 H2 w2) (h : RV K T oc kr H (wIn as w) w2 H2 d v) (hk : kr = .S ∨ kr = .F) : Val K T kr H (wOut as w w2) H2 d v := by
  rcases hk with rfl | rfl
  · exact h
  · obtain ⟨fp, m, nd, z⟩ := h
    refine ⟨fp, m, nd, fun a ha => ?_⟩
    have n0 : H a = none := by
      rcases (z a ha).1 with h | h
      · exact h
      · exact (call_mv hf h).elim
    refine ⟨n0, (z a ha).2.1, fun i hi => ?_, (z a ha).2.2.2⟩
    cases ei : refAt as i with
    | none =>
      rw [wOut_no ei] at hi
      exact s.live i a hi n0
    | some j =>
      rw [wOut_at ei] at hi
      exact (z a ha).2.2.1 j hi
end
section
variable {X : Cx} {T : Tb} {o oc : Modes} {q : Bool} {kr : Kd} {e : Expr} {es : List Expr} {pos p : Pos} {fl : M (List D)} {as : List (Option Nat)} {N ps : List Str} {np k : Nat} {f : Addr} {fd : FuncData} {m : List D → Out D} {x : Str}
theorem call_core {W : WX} {ta : TA} (hk : kr = .S ∨ kr = .F) (hf : fitM o oc as = true) (hn : as.length = np) (hN : np ≤ N.length) (hq : q = true → as.all (·.isNone) = true)
    (ga : ∀ r σ H w Q, SR X.K T o r σ H w → Gd X.K T o q (vR X.K σ as) W r σ H w (fl r) Q → ta σ H Q) :
    ∀ r σ H w Q, SR X.K T o r σ H w → Gd X.K T o q (Val X.K T kr) W r σ H w (fCall as m fl r) Q → tCallS (spD X.K T N np oc kr m) (WE W) ta σ H Q := by
  intro r σ H w Q s h
  refine ga r σ H w _ s (Gd.fst Val.back h (q1 := q) (q2 := q) (fun z => ⟨z, z⟩) fun ds r1 vs H1 w1 z1 s1 t1 q1 v1 h1 => ?_)
  have h2 : Gd X.K T o q (Val X.K T kr) W r1 σ H1 w1 (match fillD as ds r1 with | none => .stk | some dd => match m dd with | .stk => .stk | .ok d r2 => .ok d (backD as 0 r2 r1) | .ex c r2 => .ex c (backD as 0 r2 r1)) Q := h1
  clear h1 h z1
  have v2 : RepR X.K w1.G σ as ds vs := v1
  cases ed : fillD as ds r1 with
  | none => rw [ed] at h2; exact h2.elim
  | some dd =>
    rw [ed] at h2
    have hl := v2.len
    refine ⟨dd, wIn as w1, by rw [hl.2, hn], by rw [fillD_len ed, hn], hN, call_in hf s1 v2 ed, ?_⟩
    have h3 : Gd X.K T o q (Val X.K T kr) W r1 σ H1 w1 (match m dd with | .stk => .stk | .ok d r2 => .ok d (backD as 0 r2 r1) | .ex c r2 => .ex c (backD as 0 r2 r1)) Q := h2
    clear h2
    cases em : m dd with
    | stk => rw [em] at h3; exact h3
    | ok d r2 =>
      rw [em] at h3
      intro v σ2 H2 w2 s2 t2 rv
      obtain ⟨a1, a2⟩ := call_out hf s1 v2 ed s2 t2
      refine h3 v H2 _ a1 a2 (fun z => ?_) (call_val hf s1 t2 rv hk)
      have noref : ∀ j i, as[j]? ≠ some (some i) := fun j i e => by
        have := List.all_eq_true.mp (hq z) _ (List.mem_of_getElem? e)
        simp at this
      refine ⟨?_, ?_, fun a u e n => t2.keep a u e n fun ⟨j, _, mm⟩ => ?_⟩
      · refine List.ext_getElem? fun i => backD_out as 0 r2 r1 i fun j => noref j i
      · funext i
        refine wOut_no ?_
        unfold refAt
        rw [List.findIdx?_eq_none_iff]
        intro x hx
        obtain ⟨j, hj, e⟩ := List.getElem_of_mem hx
        cases x with
        | none => rfl
        | some i' => exact absurd (by rw [List.getElem?_eq_getElem hj, e]) (noref j i')
      · obtain ⟨i, e1, _⟩ := wIn_mem mm
        exact noref j i e1
    | ex c r2 =>
      rw [em] at h3
      intro dd' σ2 H2 w2 s2 t2
      obtain ⟨a1, a2⟩ := call_out hf s1 v2 ed s2 t2
      exact h3 dd' H2 _ a1 a2
/-- f(..) -/
theorem de_call (F : FnOk X.prog X.w X.K X.mg X.base (L2.CX X.prog X.w) k f fd ps (spD X.K T N np oc kr m)) (hr : Room k X.A) (hm : X.mg x = some (.ref f)) (hkp : PySem.W.keepIn X.K (.ref f) = true) (hb : Binds X.K fd ps [])
    (ha : DR X T o q (e :: es) as fl) (hk : kr = .S ∨ kr = .F := by first | exact .inl rfl | exact .inr rfl) (hf : fitM o oc as = true := by rfl) (hn : as.length = np := by rfl) (hN : np ≤ N.length := by decide) (hg : Gl X x := by rfl)
    (hdb : (x == ("__debug__" : Str)) = false := by decide) (he : starEach (e :: es) X.env = (false, eval e X.env) :: starEach es X.env := by rfl) (hpl : (backTo pos (starEach es X.env)).any (·.1) = false := by rfl) :
    DE X T o (q && as.all (·.isNone)) kr (.Call (.Name x p) (e :: es) [] pos) (fCall as m fl) := ⟨fun W tk => by
  obtain ⟨ta, pa, ga⟩ := ha.run W tk
  refine ⟨_, pe_callS F hr hg hm hkp hb (fun σ => passAt tk σ) pa hdb he hpl, call_core hk hf hn hN (fun z => (Bool.and_eq_true _ _ ▸ z).2) fun r σ H w Q s g => ga r σ H w Q s ?_⟩
  revert g
  cases fl r with
  | stk => exact fun g => g
  | ok ds r1 => exact fun g v H' w' s1 t1 q1 v1 => g v H' w' s1 t1 (fun z => q1 (Bool.and_eq_true _ _ ▸ z).1) v1
  | ex c r1 => exact fun g => g⟩
theorem pe_callS0 {CX : CXT} {sp : Sp} {E : L2.St → XK} (F : FnOk X.prog X.w X.K X.mg X.base CX k f fd ps sp) (hr : Room k X.A) (hg : Gl X x) (hm : X.mg x = some (.ref f)) (hk : PySem.W.keepIn X.K (.ref f) = true) (hb : Binds X.K fd ps []) (hx : ∀ σ, PassesAt CX X σ (E σ))
    (hdb : (x == ("__debug__" : Str)) = false := by decide) : PE X (.Call (.Name x p) [] [] pos) (tCallS sp E tNil) := by
  refine ⟨fun pins s σ H Q I h => ?_⟩
  refine wpAny_Call_Name_kw (ld_glob I hg hm ?_ hdb)
  exact PySem.W.callWith_K0 I.kIn hk (run_fnS (us := []) F hr hb (hx σ) I .nil h)
theorem de_call0 (F : FnOk X.prog X.w X.K X.mg X.base (L2.CX X.prog X.w) k f fd ps (spD X.K T N 0 oc kr m)) (hr : Room k X.A) (hm : X.mg x = some (.ref f)) (hkp : PySem.W.keepIn X.K (.ref f) = true) (hb : Binds X.K fd ps [])
    (hk : kr = .S ∨ kr = .F := by first | exact .inl rfl | exact .inr rfl) (hf : fitM o oc [] = true := by rfl) (hg : Gl X x := by rfl) (hdb : (x == ("__debug__" : Str)) = false := by decide) :
    DE X T o true kr (.Call (.Name x p) [] [] pos) (fCall [] m fNil) := ⟨fun W tk => by
  obtain ⟨ta, pa, ga⟩ := (dr_nil (X := X) (T := T) (o := o)).run W tk
  refine ⟨_, pe_callS0 F hr hg hm hkp hb (fun σ => passAt tk σ) hdb, call_core hk hf rfl (Nat.zero_le _) (fun _ => rfl) fun r σ H w Q s g => ?_⟩
  exact g.end s ⟨rfl, rfl⟩⟩
end
end Mir

set_option Elab.async false
set_option linter.all false
set_option maxRecDepth 100000
set_option maxHeartbeats 1000000
namespace Mir
open PySem L2
/-! ### readings that do not depend on the context -/
def tD (K : PySem.W.Frag) (T : Tb) (o : Modes) (q : Bool) (k : Kd) (f : M D) (W : WX) : TE := fun σ H Q => ∃ r w, SR K T o r σ H w ∧ Gd K T o q (Val K T k) W r σ H w (f r) Q
def tDT (K : PySem.W.Frag) (T : Tb) (o : Modes) (q : Bool) (f : M Bool) (W : WX) : TT := fun σ H Q => ∃ r w, SR K T o r σ H w ∧ Gd K T o q vT W r σ H w (f r) Q
def tDI (K : PySem.W.Frag) (T : Tb) (o : Modes) (f : M (List D)) (W : WX) : TI := fun σ H R => ∃ r w, SR K T o r σ H w ∧ GdI K T o W r σ H w (f r) R
def gD (K : PySem.W.Frag) (T : Tb) (o : Modes) (is : List Nat) (b : D → Rho → Option Rho) : TG := fun x σ H Q => ∃ d r r' w, SR K T o r σ H w ∧ Rep K w.G d x ∧ b d r = some r' ∧ ∀ σ', SR K T o r' σ' H w → Stp o r σ H w r' σ' H w → (∀ i, i ∉ is → σ'[i]? = σ[i]?) → Q σ' H
section
variable {X : Cx} {T : Tb} {o : Modes} {q : Bool} {k : Kd} {e : Expr} {f : M D} {g : M Bool} {fl : M (List D)} {W : WX} {tg : Expr} {is : List Nat} {b : D → Rho → Option Rho}
theorem DE.pe (h : DE X T o q k e f) (tk : Takes X W) : PE X e (tD X.K T o q k f W) := by
  obtain ⟨t, p, g⟩ := h.run W tk
  exact ⟨fun pins s σ H Q I ⟨r, w, s1, gd⟩ => p.run pins s σ H Q I (g r σ H w Q s1 gd)⟩
theorem DT.pt (h : DT X T o q e g) (tk : Takes X W) : PT X e (tDT X.K T o q g W) := by
  obtain ⟨t, p, g⟩ := h.run W tk
  exact ⟨fun pins s σ H Q I ⟨r, w, s1, gd⟩ => p.run pins s σ H Q I (g r σ H w Q s1 gd)⟩
theorem DI.pi (h : DI X T o tg e fl) (tk : Takes X W) : PI X tg e (tDI X.K T o fl W) := by
  obtain ⟨t, p, g⟩ := h.run W tk
  exact ⟨fun pins s σ H Q I ⟨r, w, s1, gd⟩ => p.run pins s σ H Q I (g r σ H w Q s1 gd)⟩
theorem DG.pg (h : DG X T o tg is b) : PG X tg (gD X.K T o is b) := by
  obtain ⟨g, p, kg⟩ := h.run
  exact ⟨fun pins s σ H v u Q I rv ⟨d, r, r', w, s1, rx, e, k⟩ => p.run pins s σ H v u Q I rv (kg d r r' σ H w v Q s1 rx e k)⟩
end
/-! ### slots forgotten and put back -/
def wipeR (r : Rho) : List Nat → Rho
  | [] => r
  | v :: vs => (wipeR r vs).set v none
theorem wipeR_length (r : Rho) : ∀ vs : List Nat, (wipeR r vs).length = r.length
  | [] => rfl
  | v :: vs => by unfold wipeR; rw [List.length_set, wipeR_length r vs]
theorem wipeR_some {r : Rho} {i : Nat} {x : D} : ∀ {vs : List Nat}, (wipeR r vs)[i]? = some (some x) → r[i]? = some (some x) ∧ i ∉ vs
  | [], h => ⟨h, by simp⟩
  | v :: vs, h => by
    unfold wipeR at h
    by_cases hi : v = i
    · subst hi
      by_cases hv : v < (wipeR r vs).length
      · rw [List.getElem?_set_self hv] at h; cases h
      · rw [List.getElem?_eq_none (by simpa using hv)] at h; cases h
    · rw [List.getElem?_set_ne hi] at h
      obtain ⟨h1, h2⟩ := wipeR_some h
      exact ⟨h1, by simp only [List.mem_cons, not_or]; exact ⟨fun e => hi e.symm, h2⟩⟩
theorem wipeR_out {r : Rho} {i : Nat} : ∀ {vs : List Nat}, i ∉ vs → (wipeR r vs)[i]? = r[i]?
  | [], _ => rfl
  | v :: vs, h => by
    have h1 : v ≠ i := fun e => h (by rw [e]; exact List.mem_cons_self)
    have h2 : i ∉ vs := fun m => h (List.mem_cons_of_mem _ m)
    unfold wipeR
    rw [List.getElem?_set_ne h1]
    exact wipeR_out h2
theorem wipe_same {σ σ' : L2.St} (hl : σ'.length = σ.length) : ∀ {vs : List Nat} , (∀ i, i ∉ vs → σ'[i]? = σ[i]?) → wipe σ' vs = wipe σ vs := fun {vs} h => by
  refine List.ext_getElem? fun i => ?_
  by_cases hi : i ∈ vs
  · have go : ∀ (σ : L2.St) (vs : List Nat), i ∈ vs → (wipe σ vs)[i]? = if i < σ.length then some none else none := by
      intro σ vs hi
      induction vs with
      | nil => simp at hi
      | cons v vs ih =>
        unfold wipe
        by_cases hv : v = i
        · subst hv
          rw [List.getElem?_set, if_pos rfl, wipe_length]
        · rw [List.getElem?_set_ne hv]
          exact ih (by rcases List.mem_cons.mp hi with e | e; exact absurd e.symm hv; exact e)
    rw [go σ' vs hi, go σ vs hi, hl]
  · rw [wipe_out hi, wipe_out hi]; exact h i hi
/-- behind a block: the block's own names as they were ahead of it -/
def unw (r1 : Rho) : List Nat → Rho → Rho
  | [], r => r
  | v :: vs, r => (unw r1 vs r).set v ((r1[v]?).getD none)
theorem unw_length (r1 : Rho) : ∀ (vs : List Nat) (r : Rho), (unw r1 vs r).length = r.length
  | [], _ => rfl
  | v :: vs, r => by unfold unw; rw [List.length_set, unw_length r1 vs]
theorem unw_out {r1 r : Rho} {i : Nat} : ∀ {vs : List Nat}, i ∉ vs → (unw r1 vs r)[i]? = r[i]?
  | [], _ => rfl
  | v :: vs, h => by
    have h1 : v ≠ i := fun e => h (by rw [e]; exact List.mem_cons_self)
    have h2 : i ∉ vs := fun m => h (List.mem_cons_of_mem _ m)
    unfold unw
    rw [List.getElem?_set_ne h1]
    exact unw_out h2
theorem unw_in {r1 r : Rho} {i : Nat} (hl : r1.length = r.length) : ∀ {vs : List Nat}, i ∈ vs → (unw r1 vs r)[i]? = r1[i]?
  | [], h => by simp at h
  | v :: vs, h => by
    unfold unw
    by_cases hv : v = i
    · subst hv
      by_cases hi : v < r.length
      · rw [List.getElem?_set, if_pos rfl, if_pos (by rw [unw_length]; exact hi), List.getElem?_eq_getElem (by omega)]; rfl
      · rw [List.getElem?_set, if_pos rfl, if_neg (by rw [unw_length]; exact hi), List.getElem?_eq_none (by omega)]
    · rw [List.getElem?_set_ne hv]
      exact unw_in hl (by rcases List.mem_cons.mp h with e | e; exact absurd e.symm hv; exact e)
section
variable {K : PySem.W.Frag} {T : Tb} {o : Modes} {r r1 r2 : Rho} {σ : L2.St} {H H1 : Hp} {w w1 : Wd} {vs : List Nat}
theorem SR.wipeX (s : SR K T o r σ H w) (vs : List Nat) : SR K T o (wipeR r vs) (wipe σ vs) H w := ⟨s.sub, s.gtab, fun i d e => by
  obtain ⟨e1, n⟩ := wipeR_some e
  obtain ⟨v, e2, e3⟩ := s.val i d e1
  exact ⟨v, by rw [wipe_out n]; exact e2, e3⟩, s.off, s.live, s.dis, s.nd, s.ntab, s.tab, by rw [wipe_length, wipeR_length]; exact s.len⟩
/-- out of the block -/
theorem SR.unwX (s : SR K T o r σ H w) (s2 : SR K T o r2 (wipe σ vs) H1 w1) (t : Stp o (wipeR r vs) (wipe σ vs) H w r2 (wipe σ vs) H1 w1) (hm : ∀ v ∈ vs, mode o v = 0) : SR K T o (unw r vs r2) σ H1 w1 ∧ Stp o r σ H w (unw r vs r2) σ H1 w1 := by
  have hl : r.length = r2.length := by rw [t.lenR, wipeR_length]
  refine ⟨⟨s2.sub, s2.gtab, fun i d e => ?_, s2.off, s2.live, s2.dis, s2.nd, s2.ntab, s2.tab, by rw [unw_length, ← hl]; exact s.len⟩, ⟨rfl, by rw [unw_length, ← hl], t.grow, t.newG, t.keep, t.alive, t.fps, fun i h => ?_, fun _ _ => rfl, t.kext⟩⟩
  · by_cases hi : i ∈ vs
    · rw [unw_in hl hi] at e
      obtain ⟨v, e2, e3⟩ := s.val i d e
      rw [if_pos (hm i hi)] at e3
      exact ⟨v, e2, by rw [if_pos (hm i hi)]; exact Rep.mono t.grow _ _ e3⟩
    · rw [unw_out hi] at e
      obtain ⟨v, e2, e3⟩ := s2.val i d e
      rw [wipe_out hi] at e2
      exact ⟨v, e2, e3⟩
  · have hi : i ∉ vs := fun z => by rw [hm i z] at h; cases h
    obtain ⟨f1, f2⟩ := t.fix i h
    rw [unw_out hi, f1, wipeR_out hi]
    exact ⟨rfl, f2⟩
end
/-! ### the list that is gathered -/
def Acc (K : PySem.W.Frag) (T : Tb) (k : Kd) (H0 : Hp) (w : Wd) (H : Hp) (A : Addr) (acc : List D) : Prop := ∃ vs fps, H A = some (.lst vs) ∧ H0 A = none ∧ w.G A = none ∧ (∀ i, A ∉ w.fp i) ∧ A ∉ fps ∧ fps.Nodup ∧
  (match k with
    | .F => MRepL K T w.G H acc vs fps
    | _ => RepL K w.G acc vs ∧ fps = []) ∧ ∀ a ∈ fps, H0 a = none ∧ w.G a = none ∧ (∀ i, a ∉ w.fp i) ∧ ∀ ps, H a ≠ some (.tbl ps)
section
variable {K : PySem.W.Frag} {T : Tb} {o : Modes} {k : Kd} {r r1 : Rho} {σ σ1 : L2.St} {H0 H H1 : Hp} {w w1 : Wd} {A : Addr} {acc : List D}
/-- what is nobody's stays -/
theorem Stp.limbo (t : Stp o r σ H w r1 σ1 H1 w1) {a : Addr} (n1 : H a ≠ none) (n2 : w.G a = none) (n3 : ∀ i, a ∉ w.fp i) (n4 : ∀ ps, H a ≠ some (.tbl ps)) : H1 a = H a ∧ w1.G a = none ∧ ∀ i, a ∉ w1.fp i := by
  have nmu : ¬ Mu o w a := fun ⟨i, _, hi⟩ => n3 i hi
  refine ⟨?_, ?_, fun i hi => ?_⟩
  · cases e : H a with
    | none => exact absurd e n1
    | some u => exact t.keep a u e (fun ps z => n4 ps (by rw [e, z])) nmu
  · cases e : w1.G a with
    | none => rfl
    | some u =>
      rcases t.newG a (by rw [e]; simp) with h | h | h
      · exact absurd n2 h
      · exact absurd h n1
      · exact absurd h.mu nmu
  · rcases t.fps i a hi with h | h | h
    · exact n1 h
    · exact nmu h.mu
    · exact n3 i h
theorem Acc.keep (t : Stp o r σ H w r1 σ1 H1 w1) (x : Acc K T k H0 w H A acc) : Acc K T k H0 w1 H1 A acc := by
  obtain ⟨vs, fps, e, z0, zG, zf, nA, nd, m, z⟩ := x
  obtain ⟨a1, a2, a3⟩ := t.limbo (by rw [e]; simp) zG zf (fun ps => by rw [e]; simp)
  have lv : ∀ a ∈ fps, H a ≠ none := by
    cases k with
    | F => exact MRepL.live _ _ _ m
    | S => obtain ⟨_, rfl⟩ := m; simp
    | C => obtain ⟨_, rfl⟩ := m; simp
    | R => obtain ⟨_, rfl⟩ := m; simp
  have l : ∀ a ∈ fps, H1 a = H a ∧ w1.G a = none ∧ ∀ i, a ∉ w1.fp i := fun a ha => t.limbo (lv a ha) (z a ha).2.1 (z a ha).2.2.1 (z a ha).2.2.2
  refine ⟨vs, fps, a1.trans e, z0, a2, a3, nA, nd, ?_, fun a ha => ⟨(z a ha).1, (l a ha).2.1, (l a ha).2.2, fun ps => by rw [(l a ha).1]; exact (z a ha).2.2.2 ps⟩⟩
  cases k with
  | F => exact MRepL.keep t.grow _ _ _ m fun a ha => (l a ha).1
  | S => exact ⟨RepL.mono t.grow _ _ m.1, m.2⟩
  | C => exact ⟨RepL.mono t.grow _ _ m.1, m.2⟩
  | R => exact ⟨RepL.mono t.grow _ _ m.1, m.2⟩
theorem MRepL.snoc {G H : Hp} {d : D} {v : V} {f : List Addr} : ∀ {ds : List D} {vs : List V} {fps : List Addr}, MRepL K T G H ds vs fps → MRep K T G H d v f → MRepL K T G H (ds ++ [d]) (vs ++ [v]) (fps ++ f)
  | [], vs, fps, ⟨e1, e2⟩, m => by subst e1 e2; exact ⟨v, [], f, [], rfl, m, ⟨rfl, rfl⟩, by simp⟩
  | d0 :: ds, vs, fps, ⟨v0, vs', f1, f2, e, r1, r2, e2⟩, m => by
    subst e e2
    exact ⟨v0, vs' ++ [v], f1, f2 ++ f, rfl, r1, r2.snoc m, by rw [List.append_assoc]⟩
theorem MRepL.length : ∀ {ds : List D} {vs : List V} {fps : List Addr} {G H : Hp}, MRepL K T G H ds vs fps → ds.length = vs.length
  | [], vs, fps, G, H, ⟨e1, e2⟩ => by subst e1; rfl
  | d0 :: ds, vs, fps, G, H, ⟨v0, vs', f1, f2, e, r1, r2, e2⟩ => by subst e; simp [r2.length]
/-- a change at a node of nobody -/
theorem tabs_poke {u u0 : HO} (e0 : H A = some u0) (p1 : ∀ ps, u0 ≠ .tbl ps) (p2 : ∀ φ, u0 ≠ .ext φ) (t : LamX.Tabs T.tabs H) : LamX.Tabs T.tabs (upd H A u) := fun p hp => by
  obtain ⟨ps, h1, h2, h3⟩ := t p hp
  refine ⟨ps, by rw [upd_ne (fun z => by rw [z, e0] at h1; exact p1 ps (Option.some.inj h1))]; exact h1, h2, fun pos cv hc => ?_⟩
  obtain ⟨c, e1, e2⟩ := h3 pos cv hc
  exact ⟨c, e1, by rw [upd_ne (fun z => by rw [z, e0] at e2; exact p2 _ (Option.some.inj e2))]; exact e2⟩
theorem SR.poke {u u0 : HO} (s : SR K T o r σ H w) (e0 : H A = some u0) (p1 : ∀ ps, u0 ≠ .tbl ps) (p2 : ∀ φ, u0 ≠ .ext φ) (n2 : w.G A = none) (n3 : ∀ i, A ∉ w.fp i) : SR K T o r σ (upd H A u) w := by
  refine ⟨fun a x e n => ?_, s.gtab, fun i d e => ?_, s.off, fun i a ha => ?_, s.dis, s.nd, fun i a ps ha => ?_, tabs_poke e0 p1 p2 s.tab, s.len⟩
  · rw [upd_ne (fun z => by rw [z, n2] at e; cases e)]; exact s.sub a x e n
  · obtain ⟨v, e1, e2⟩ := s.val i d e
    refine ⟨v, e1, ?_⟩
    split at e2
    · rename_i hm; rw [if_pos hm]; exact e2
    · rename_i hm
      rw [if_neg hm]
      exact MRep.keep (Sub.refl _) _ _ _ e2 fun a ha => upd_ne fun z => n3 i (by rw [← z]; exact ha)
  · exact upd_some (s.live i a ha)
  · rw [upd_ne (fun z => n3 i (by rw [← z]; exact ha))]; exact s.ntab i a ps ha
/-- .. seen from a state in which it was not yet there -/
theorem Stp.poke {u : HO} (t : Stp o r σ H0 w r1 σ1 H1 w1) (e0 : H0 A = none) : Stp o r σ H0 w r1 σ1 (upd H1 A u) w1 :=
  ⟨t.len, t.lenR, t.grow, t.newG, fun a x e n m => by rw [upd_ne (fun z => by rw [z, e0] at e; cases e)]; exact t.keep a x e n m, fun a n => upd_some (t.alive a n), t.fps, t.fix, t.bind, fun a φ e => by rw [upd_ne (fun z => by rw [z, e0] at e; cases e)]; exact t.kext a φ e⟩
/-- an item comes to the list -/
theorem Acc.push {d : D} {v : V} {Hb : Hp} {wb : Wd} {rb : Rho} (hk : k = .S ∨ k = .F) (s : SR K T o r σ H w) (x : Acc K T k H0 wb Hb A acc) (t : Stp o rb σ Hb wb r σ H w) (hb : ∀ a, Hb a = none → H0 a = none) (hv : Val K T k Hb w H d v) :
    ∃ vs, H A = some (.lst vs) ∧ vs.length = acc.length ∧ Acc K T k H0 w (upd H A (.lst (vs ++ [v]))) A (acc ++ [d]) ∧ SR K T o r σ (upd H A (.lst (vs ++ [v]))) w := by
  obtain ⟨vs, fps, eb, z0, zGb, zfb, nA, nd, mb, zb⟩ := x
  have lv : ∀ a ∈ fps, Hb a ≠ none := by
    cases k with
    | F => exact MRepL.live _ _ _ mb
    | S => obtain ⟨_, rfl⟩ := mb; simp
    | C => obtain ⟨_, rfl⟩ := mb; simp
    | R => obtain ⟨_, rfl⟩ := mb; simp
  obtain ⟨a1, zG, zf⟩ := t.limbo (by rw [eb]; simp) zGb zfb (fun ps => by rw [eb]; simp)
  have l : ∀ a ∈ fps, H a = Hb a ∧ w.G a = none ∧ ∀ i, a ∉ w.fp i := fun a ha => t.limbo (lv a ha) (zb a ha).2.1 (zb a ha).2.2.1 (zb a ha).2.2.2
  have e := a1.trans eb
  have sp := s.poke (u := .lst (vs ++ [v])) e (fun ps y => by cases y) (fun φ y => by cases y) zG zf
  rcases hk with rfl | rfl
  · obtain ⟨m1, rfl⟩ := mb
    exact ⟨vs, e, m1.length.symm, ⟨vs ++ [v], [], upd_same, z0, zG, zf, by simp, List.nodup_nil, ⟨(m1.mono t.grow).append ⟨v, [], rfl, hv, rfl⟩, rfl⟩, by simp⟩, sp⟩
  · obtain ⟨fp, mv, ndv, zv⟩ := hv
    have m : MRepL K T w.G H acc vs fps := MRepL.keep t.grow _ _ _ mb fun a ha => (l a ha).1
    have q1 : A ∉ fp := fun h => by rw [(zv A h).1] at eb; cases eb
    have q2 : ∀ a ∈ fp, a ∉ fps := fun a h h' => lv a h' (zv a h).1
    have same : ∀ a, a ≠ A → upd H A (.lst (vs ++ [v])) a = H a := fun a n => upd_ne n
    refine ⟨vs, e, m.length.symm, ⟨vs ++ [v], fps ++ fp, upd_same, z0, zG, zf, ?_, ?_, ?_, fun a ha => ?_⟩, sp⟩
    · simp only [List.mem_append, not_or]; exact ⟨nA, q1⟩
    · rw [List.nodup_append]
      exact ⟨nd, ndv, fun a ha b hb z => q2 b hb (by rw [← z]; exact ha)⟩
    · exact MRepL.snoc (MRepL.keep (Sub.refl _) _ _ _ m fun a ha => same a fun z => nA (by rw [← z]; exact ha)) (MRep.keep (Sub.refl _) _ _ _ mv fun a ha => same a fun z => q1 (by rw [← z]; exact ha))
    · rcases List.mem_append.mp ha with h | h
      · rw [same a fun z => nA (by rw [← z]; exact h), (l a h).1]
        exact ⟨(zb a h).1, (l a h).2.1, (l a h).2.2, (zb a h).2.2.2⟩
      · rw [same a fun z => q1 (by rw [← z]; exact h)]
        exact ⟨hb a (zv a h).1, (zv a h).2⟩
/-- the state without a node of nobody -/
def cutH (H : Hp) (A : Addr) : Hp := fun a => if a = A then none else H a
/-- done: frozen, or owned -/
theorem Acc.fin {kz : Kd} {Q : VK} (hz : (k = .S ∧ (kz = .S ∨ kz = .F) ∧ fitK kz acc = true) ∨ (k = .F ∧ kz = .F)) (s : SR K T o r σ H w) (x : Acc K T k H0 w H A acc) (t : Stp o r1 σ H0 w1 r σ H w)
    (h : ∀ w', SR K T o r σ H w' → Stp o r1 σ H0 w1 r σ H w' → Val K T kz H0 w' H (.lst acc) (.ref A) → Q (.ref A) H) : Q (.ref A) H := by
  obtain ⟨vs, fps, e, z0, zG, zf, nA, nd, m, z⟩ := x
  have asF : k = .F ∨ acc.all leafy = true → kz = .F → Q (.ref A) H := fun hc hkz => by
    subst hkz
    refine h w s t ?_
    have mm : MRepL K T w.G H acc vs fps := by
      cases k with
      | F => exact m
      | S =>
        obtain ⟨m1, rfl⟩ := m
        rcases hc with hc | hc
        · cases hc
        · exact leafyL_m _ _ hc m1
      | C =>
        obtain ⟨m1, rfl⟩ := m
        rcases hc with hc | hc
        · cases hc
        · exact leafyL_m _ _ hc m1
      | R =>
        obtain ⟨m1, rfl⟩ := m
        rcases hc with hc | hc
        · cases hc
        · exact leafyL_m _ _ hc m1
    refine ⟨A :: fps, ⟨A, vs, fps, rfl, e, mm, rfl⟩, List.nodup_cons.mpr ⟨nA, nd⟩, fun a ha => ?_⟩
    rcases List.mem_cons.mp ha with rfl | ha
    · exact ⟨z0, zG, zf, fun ps => by rw [e]; simp⟩
    · exact z a ha
  rcases hz with ⟨rfl, hkz, hf⟩ | ⟨rfl, rfl⟩
  · rcases hkz with rfl | rfl
    · obtain ⟨m1, _⟩ := m
      have sg : Sub w.G (w.add A (.lst vs)).G := sub_new zG
      refine h (w.add A (.lst vs)) ⟨fun a x ea n => ?_, fun a ps ea => ?_, fun i d ed => ?_, fun i a ha => ?_, s.live, s.dis, s.nd, s.ntab, s.tab, s.len⟩ ⟨t.len, t.lenR, t.grow.trans sg, fun a ha => ?_, t.keep, t.alive, t.fps, t.fix, t.bind, t.kext⟩ ⟨A, vs, rfl, upd_same, RepL.mono sg _ _ m1⟩
      · have ea' : upd w.G A (.lst vs) a = some x := ea
        by_cases hp : a = A
        · rw [hp, upd_same] at ea'; cases ea'; rw [hp]; exact e
        · rw [upd_ne hp] at ea'; exact s.sub a x ea' n
      · have ea' : upd w.G A (.lst vs) a = some (.tbl ps) := ea
        by_cases hp : a = A
        · rw [hp, upd_same] at ea'; cases ea'
        · rw [upd_ne hp] at ea'; exact s.gtab a ps ea'
      · obtain ⟨v, e1, e2⟩ := s.val i d ed
        refine ⟨v, e1, ?_⟩
        split at e2
        · rename_i hm; rw [if_pos hm]; exact Rep.mono sg _ _ e2
        · rename_i hm; rw [if_neg hm]; exact MRep.keep sg _ _ _ e2 fun _ _ => rfl
      · show upd w.G A (.lst vs) a = none
        rw [upd_ne (fun y => zf i (by rw [← y]; exact ha))]
        exact s.off i a ha
      · have ha' : upd w.G A (.lst vs) a ≠ none := ha
        by_cases hp : a = A
        · rw [hp]; exact .inr (.inl z0)
        · rw [upd_ne hp] at ha'; exact t.newG a ha'
    · exact asF (.inr hf) rfl
  · exact asF (.inl rfl) rfl
end
/-! ### list comprehensions -/
theorem Stp.wipe {o : Modes} {r : Rho} {σ : L2.St} {H : Hp} {w : Wd} {vs : List Nat} (hm : ∀ v ∈ vs, mode o v = 0) : Stp o r σ H w (wipeR r vs) (L2.wipe σ vs) H w := by
  have n : ∀ i, mode o i ≠ 0 → i ∉ vs := fun i h z => h (hm i z)
  exact ⟨wipe_length _ _, wipeR_length _ _, Sub.refl _, fun _ h => .inl h, fun _ _ e _ _ => e, fun _ h => h, fun _ _ h => .inr (.inr h), fun i h => ⟨wipeR_out (n i (by rw [h]; decide)), rfl⟩, fun i h => wipe_out (n i (by intro z; rw [z] at h; exact absurd h (by decide))), fun _ _ e => e⟩
structure DTs (X : Cx) (T : Tb) (o : Modes) (q : Bool) (ifs : List Expr) (f : M Bool) : Prop where
  run : PTs X ifs (tDT X.K T o q f (fun _ _ _ _ => False))
def fYes : M Bool := fun r => .ok true r
theorem dts_nil {X : Cx} {T : Tb} {o : Modes} : DTs X T o true [] fYes := ⟨⟨fun pins s σ H Q I h => by
  obtain ⟨r, w, s1, g⟩ := h
  exact pts_nil.run pins s σ H Q I (g.end s1 rfl)⟩⟩
theorem dts_one {X : Cx} {T : Tb} {o : Modes} {q : Bool} {c : Expr} {f : M Bool} (h : DT X T o q c f) : DTs X T o q [c] f := ⟨pts_one (h.pt L2.takes0)⟩
def lcL (vs : List Nat) (b : D → Rho → Option Rho) (t : M Bool) (e : M D) : List D → Rho → Option (List D × Rho)
  | [], r => some ([], r)
  | d :: ds, r => match b d r with
    | none => none
    | some r1 => match t r1 with
      | .ok true r2 => match e r2 with
        | .ok y r3 => (lcL vs b t e ds (wipeR r3 vs)).map fun p => (y :: p.1, p.2)
        | _ => none
      | .ok false r2 => lcL vs b t e ds (wipeR r2 vs)
      | _ => none
def fLc (kz : Kd) (vs : List Nat) (fi : M (List D)) (b : D → Rho → Option Rho) (t : M Bool) (e : M D) : M D := bnd fi fun ds r1 => match lcL vs b t e ds (wipeR r1 vs) with
  | none => .stk
  | some (l, r2) => if lim l.length && fitK kz l then .ok (.lst l) (unw r1 vs r2) else .stk
/-- .. of owned things -/
def fLcF (vs : List Nat) (fi : M (List D)) (b : D → Rho → Option Rho) (t : M Bool) (e : M D) : M D := bnd fi fun ds r1 => match lcL vs b t e ds (wipeR r1 vs) with
  | none => .stk
  | some (l, r2) => if lim l.length then .ok (.lst l) (unw r1 vs r2) else .stk
section
variable {X : Cx} {T : Tb} {o : Modes} {ke kz : Kd} {elt tg iter : Expr} {ifs : List Expr} {scope : Scope} {own : List (Str × Nat)} {pos : Pos} {fi : M (List D)} {b : D → Rho → Option Rho} {is : List Nat} {t : M Bool} {e : M D}
theorem lc_run {W : WX} {qt qe : Bool} {vs : List Nat} (hke : ke = .S ∨ ke = .F) (hm : ∀ v ∈ vs, mode o v = 0) (his : ∀ i ∈ is, i ∈ vs) {fit : List D → Bool}
    (hz : ∀ l, fit l = true → (ke = .S ∧ (kz = .S ∨ kz = .F) ∧ fitK kz l = true) ∨ (ke = .F ∧ kz = .F)) :
    ∀ r σ H w Q, SR X.K T o r σ H w → Gd X.K T o false (Val X.K T kz) W r σ H w (bnd fi (fun ds r1 => match lcL vs b t e ds (wipeR r1 vs) with
      | none => .stk
      | some (l, r2) => if lim l.length && fit l then .ok (.lst l) (unw r1 vs r2) else .stk) r) Q →
      tLc (tDI X.K T o fi W) (gD X.K T o is b) (tDT X.K T o qt t (fun _ _ _ _ => False)) (tD X.K T o qe ke e (fun _ _ _ _ => False)) vs σ H Q := by
  intro r σ H w Q s g
  refine ⟨r, w, s, ?_⟩
  unfold bnd at g
  cases ei : fi r with
  | stk => rw [ei] at g; exact g
  | ex c r1 => rw [ei] at g; exact g
  | ok ds r1 =>
    rw [ei] at g
    have g : Gd X.K T o false (Val X.K T kz) W r σ H w (match lcL vs b t e ds (wipeR r1 vs) with
      | none => .stk
      | some (l, r2) => if lim l.length && fit l then .ok (.lst l) (unw r1 vs r2) else .stk) Q := g
    cases el : lcL vs b t e ds (wipeR r1 vs) with
    | none => rw [el] at g; exact g.elim
    | some p =>
      obtain ⟨tot, rE⟩ := p
      rw [el] at g
      have g : Gd X.K T o false (Val X.K T kz) W r σ H w (if lim tot.length && fit tot then .ok (.lst tot) (unw r1 vs rE) else .stk) Q := g
      split at g
      · rename_i hl
        rw [Bool.and_eq_true] at hl
        intro J H1 w1 s1 t1 wk A hA
        have hA0 : H A = none := by
          cases ea : H A with
          | none => rfl
          | some u => exact absurd hA (t1.alive A (by rw [ea]; simp))
        refine ⟨fun i m H' => ∃ r' w' acc rest, m = ds.length - i ∧ i ≤ ds.length ∧ SR X.K T o r' (L2.wipe σ vs) H' w' ∧ Stp o (wipeR r1 vs) (L2.wipe σ vs) H1 w1 r' (L2.wipe σ vs) H' w' ∧ Acc X.K T ke H1 w' H' A acc ∧ lcL vs b t e (ds.drop i) r' = some (rest, rE) ∧ acc ++ rest = tot,
          ⟨ds.length, wipeR r1 vs, w1, [], tot, by simp, Nat.zero_le _, (s1.wipeX vs).fresh hA, Stp.fresh hA, ⟨[], [], upd_same, hA, s1.gnone hA, fun i hi => s1.live i A hi hA, by simp, List.nodup_nil, ?_, by simp⟩, el, rfl⟩, ?_⟩
        · rcases hke with rfl | rfl
          · exact ⟨rfl, rfl⟩
          · exact ⟨rfl, rfl⟩
        rintro i m H2 ⟨r2, w2, acc, rest, rfl, hi, s2, t2, ac, e2, etot⟩
        obtain ⟨k2, k3⟩ := wk i r2 (L2.wipe σ vs) H2 w2 s2 ((Stp.wipe hm).trans t2)
        by_cases hlt : i < ds.length
        · refine .inr ?_
          have ed : ds.drop i = ds[i] :: ds.drop (i + 1) := List.drop_eq_getElem_cons hlt
          rw [ed] at e2
          obtain ⟨g1, g2⟩ := k3 ds[i] (by simp [hlt])
          refine ⟨g1, fun H' => ∃ r' w' acc rest, SR X.K T o r' (L2.wipe σ vs) H' w' ∧ Stp o (wipeR r1 vs) (L2.wipe σ vs) H1 w1 r' (L2.wipe σ vs) H' w' ∧ Acc X.K T ke H1 w' H' A acc ∧ lcL vs b t e (ds.drop (i + 1)) r' = some (rest, rE) ∧ acc ++ rest = tot, fun H' h => ?_, fun x H3 y => ?_⟩
          · obtain ⟨r', w', acc', rest', a1, a2, a3, a4, a5⟩ := h
            exact ⟨ds.length - (i + 1), by omega, r', w', acc', rest', rfl, hlt, a1, a2, a3, a4, a5⟩
          · obtain ⟨w3, s3, t3, rx⟩ := g2 x H3 y
            unfold lcL at e2
            cases eb : b ds[i] r2 with
            | none => rw [eb] at e2; cases e2
            | some r4 =>
              rw [eb] at e2
              refine ⟨ds[i], r2, r4, w3, s3, rx, eb, fun σ4 s4 t4 n4 => ?_⟩
              have hσ : L2.wipe σ4 vs = L2.wipe σ vs := by
                have h1 : L2.wipe σ4 vs = L2.wipe (L2.wipe σ vs) vs := wipe_same t4.len fun i hi => n4 i fun z => hi (his i z)
                rw [h1]
                exact wipe_same (wipe_length _ _) fun i hi => wipe_out hi
              refine ⟨hσ, r4, w3, s4, ?_⟩
              have e2 : (match t r4 with
                | .ok true r2 => match e r2 with
                  | .ok y r3 => (lcL vs b t e (ds.drop (i + 1)) (wipeR r3 vs)).map fun p => (y :: p.1, p.2)
                  | _ => none
                | .ok false r2 => lcL vs b t e (ds.drop (i + 1)) (wipeR r2 vs)
                | _ => none) = some (rest, rE) := e2
              have ac3 := ac.keep (t3.trans t4)
              have wp : ∀ {r' : Rho} {H' : Hp} {w' : Wd}, SR X.K T o r' σ4 H' w' → Stp o (wipeR r1 vs) (L2.wipe σ vs) H1 w1 r' σ4 H' w' → SR X.K T o (wipeR r' vs) (L2.wipe σ vs) H' w' ∧ Stp o (wipeR r1 vs) (L2.wipe σ vs) H1 w1 (wipeR r' vs) (L2.wipe σ vs) H' w' := fun {r' H' w'} sa ta => by
                have h1 := sa.wipeX vs
                have h2 := ta.trans (Stp.wipe hm)
                rw [hσ] at h1 h2
                exact ⟨h1, h2⟩
              cases et : t r4 with
              | stk => rw [et] at e2; cases e2
              | ex c r' => rw [et] at e2; cases e2
              | ok bb r5 =>
                rw [et] at e2
                intro bb' H5 w5 s5 t5 _ v5
                have v5 : bb' = bb := v5
                subst v5
                cases bb' with
                | true =>
                  rw [if_pos rfl]
                  refine ⟨r5, w5, s5, ?_⟩
                  have e2 : (match e r5 with
                    | .ok y r3 => (lcL vs b t e (ds.drop (i + 1)) (wipeR r3 vs)).map fun p => (y :: p.1, p.2)
                    | _ => none) = some (rest, rE) := e2
                  cases ee : e r5 with
                  | stk => rw [ee] at e2; cases e2
                  | ex c r' => rw [ee] at e2; cases e2
                  | ok dy r6 =>
                    rw [ee] at e2
                    intro yv H6 w6 s6 t6 _ v6
                    have e2 : (lcL vs b t e (ds.drop (i + 1)) (wipeR r6 vs)).map (fun p => (dy :: p.1, p.2)) = some (rest, rE) := e2
                    rw [Option.map_eq_some_iff] at e2
                    obtain ⟨⟨rest', rE'⟩, e3, e4⟩ := e2
                    cases e4
                    obtain ⟨zs, b1, b2, b3, b4⟩ := Acc.push hke s6 (ac3.keep t5) t6 (fun a h => back_of (t2.trans (t3.trans (t4.trans t5)) |> fun z => (⟨rfl, z.lenR, z.grow, z.newG, z.keep, z.alive, z.fps, z.fix, fun _ _ => rfl, z.kext⟩ : Stp o (wipeR r1 vs) σ4 H1 w1 r5 σ4 H5 w5)) h) v6
                    refine ⟨zs, b1, ?_, ?_⟩
                    · have : acc.length < tot.length := by rw [← etot]; simp
                      have h3 := lim_sz hl.1
                      omega
                    · obtain ⟨c1, c2⟩ := wp (H' := upd H6 A (.lst (zs ++ [yv]))) b4 ((t2.trans (t3.trans (t4.trans (t5.trans t6)))).poke hA)
                      exact ⟨wipeR r6 vs, w6, acc ++ [dy], rest', c1, c2, b3, e3, by rw [← etot]; simp⟩
                | false =>
                  rw [if_neg Bool.false_ne_true]
                  obtain ⟨c1, c2⟩ := wp s5 (t2.trans (t3.trans (t4.trans t5)))
                  exact ⟨wipeR r5 vs, w5, acc, rest, c1, c2, ac3.keep t5, e2, etot⟩
        · refine .inl ⟨k2 (by omega), ?_⟩
          have e' : i = ds.length := by omega
          have ed : ds.drop i = [] := by rw [e']; simp
          rw [ed] at e2
          cases e2
          have etot : acc = tot := by simpa using etot
          subst etot
          obtain ⟨c1, c2⟩ := s1.unwX s2 t2 hm
          exact Acc.fin (hz acc hl.2) c1 ac c2 fun w' a1 a2 a3 => g _ H2 w' a1 (t1.trans a2) (fun z => by cases z) (Val.back _ _ _ _ _ _ (fun a => back_of t1) a3)
      · exact g.elim
abbrev Blk (X : Cx) (scope : Scope) (s : Shared) (H : Hp) (C : Addr) (cl : List (Str × Addr)) (fp : List Addr) : Cx := X.blk s H scope (compEnvC scope cl C X.env) fp
/-- [elt for tg in iter if ..] -/
theorem lc_any {qt qe : Bool} {fit : List D → Bool} (hke : ke = .S ∨ ke = .F) (hz : ∀ l, fit l = true → (ke = .S ∧ (kz = .S ∨ kz = .F) ∧ fitK kz l = true) ∨ (ke = .F ∧ kz = .F)) (hN : X.N.Nodup) (hi : DI X T o tg iter fi) (hg : ∀ s H C cl fp, DG (Blk X scope s H C cl fp) T o tg is b) (ht : ∀ s H C cl fp, DTs (Blk X scope s H C cl fp) T o qt ifs t) (he : ∀ s H C cl fp, DE (Blk X scope s H C cl fp) T o qe ke elt e)
    (ok : blkC X.N X.env.scope scope own = true) (hm : (own.map (·.2)).all (fun v => mode o v == 0) = true) (his : is.all (fun i => (own.map (·.2)).contains i) = true) (hc : X.calm = true) (hs : ∀ x, foldedSetIterable iter X.env x = pure x) :
    DE X T o false kz (.ListComp elt [⟨tg, iter, ifs, 0⟩] scope pos) (bnd fi (fun ds r1 => match lcL (own.map (·.2)) b t e ds (wipeR r1 (own.map (·.2))) with
      | none => .stk
      | some (l, r2) => if lim l.length && fit l then .ok (.lst l) (unw r1 (own.map (·.2)) r2) else .stk)) := ⟨fun W tk => by
  have hm' : ∀ v ∈ own.map (·.2), mode o v = 0 := fun v hv => by simpa using List.all_eq_true.mp hm v hv
  have his' : ∀ i ∈ is, i ∈ own.map (·.2) := fun i h => by simpa using List.all_eq_true.mp his i h
  refine ⟨_, pe_lc hc hN (hi.pi tk) (blkOk_by ok) (g := gD X.K T o is b) (fun s H C cl fp => (hg s H C cl fp).pg) (tt := tDT X.K T o qt t (fun _ _ _ _ => False)) (fun s H C cl fp => (ht s H C cl fp).run) (te := tD X.K T o qe ke e (fun _ _ _ _ => False)) (fun s H C cl fp => (he s H C cl fp).pe L2.takes0) hs, ?_⟩
  exact lc_run hke hm' his' hz⟩
theorem de_lc {qt qe : Bool} (hN : X.N.Nodup) (hi : DI X T o tg iter fi) (hg : ∀ s H C cl fp, DG (Blk X scope s H C cl fp) T o tg is b) (ht : ∀ s H C cl fp, DTs (Blk X scope s H C cl fp) T o qt ifs t) (he : ∀ s H C cl fp, DE (Blk X scope s H C cl fp) T o qe .S elt e)
    (ok : blkC X.N X.env.scope scope own = true := by rfl) (hm : (own.map (·.2)).all (fun v => mode o v == 0) = true := by rfl) (his : is.all (fun i => (own.map (·.2)).contains i) = true := by rfl) (hkz : kz = .S ∨ kz = .F := by first | exact .inl rfl | exact .inr rfl) (hc : X.calm = true := by rfl) (hs : ∀ x, foldedSetIterable iter X.env x = pure x := by intro _; rfl) :
    DE X T o false kz (.ListComp elt [⟨tg, iter, ifs, 0⟩] scope pos) (fLc kz (own.map (·.2)) fi b t e) :=
  lc_any (.inl rfl) (fit := fitK kz) (fun l hl => .inl ⟨rfl, hkz, hl⟩) hN hi hg ht he ok hm his hc hs
theorem de_lcF {qt qe : Bool} (hN : X.N.Nodup) (hi : DI X T o tg iter fi) (hg : ∀ s H C cl fp, DG (Blk X scope s H C cl fp) T o tg is b) (ht : ∀ s H C cl fp, DTs (Blk X scope s H C cl fp) T o qt ifs t) (he : ∀ s H C cl fp, DE (Blk X scope s H C cl fp) T o qe .F elt e)
    (ok : blkC X.N X.env.scope scope own = true := by rfl) (hm : (own.map (·.2)).all (fun v => mode o v == 0) = true := by rfl) (his : is.all (fun i => (own.map (·.2)).contains i) = true := by rfl) (hc : X.calm = true := by rfl) (hs : ∀ x, foldedSetIterable iter X.env x = pure x := by intro _; rfl) :
    DE X T o false .F (.ListComp elt [⟨tg, iter, ifs, 0⟩] scope pos) (fLcF (own.map (·.2)) fi b t e) := by
  have h := lc_any (X := X) (T := T) (o := o) (kz := .F) (pos := pos) (.inr rfl) (fit := fun _ => true) (fun l hl => .inr ⟨rfl, rfl⟩) hN hi hg ht he ok hm his hc hs
  have e : (fLcF (own.map (·.2)) fi b t e) = (bnd fi (fun ds r1 => match lcL (own.map (·.2)) b t e ds (wipeR r1 (own.map (·.2))) with
      | none => .stk
      | some (l, r2) => if lim l.length && true then .ok (.lst l) (unw r1 (own.map (·.2)) r2) else .stk)) := by
    unfold fLcF
    congr 1
    funext ds r1
    split
    · rfl
    · rw [Bool.and_true]
  rw [e]
  exact h
end
end Mir

set_option Elab.async false
set_option linter.all false
set_option maxRecDepth 100000
set_option maxHeartbeats 1000000
namespace Mir
open PySem L2
section
variable {X : Cx} {T : Tb} {o : Modes} {q qa qb : Bool} {k k1 k2 kz kr : Kd} {e a b : Expr} {es : List Expr} {pos pos' : Pos} {f fa fb : M D} {fl : M (List D)}
/-! ### products, negative numbers, names of the top -/
def sm64 (i : Int) : Bool := decide (-(2 ^ 64) < i ∧ i < 2 ^ 64)
def mulD := intD (fun i j => sm64 i || sm64 j) (fun i j => i * j)
theorem og_mul : OpG X T o .S .S .S (rI CMul fun i j => .int (i * j)) mulD := og_int (by simp) fun i j H Q c q => ⟨i, j, rfl, rfl, by
  rcases Bool.or_eq_true _ _ ▸ c with h | h
  · exact .inl (of_decide_eq_true h)
  · exact .inr (of_decide_eq_true h), q⟩
def negD : D → Option D
  | .int i => some (.int (-i))
  | _ => none
theorem de_neg (h : DE X T o q .S a fa) : DE X T o q .S (.UnaryOp .USub a pos) (fn1 negD fa) := ⟨fun W tk => by
  obtain ⟨ta, pa, ga⟩ := h.run W tk
  refine ⟨_, pe_un un_neg pa, fun r σ H w Q s h => ga r σ H w _ s (Gd.fst Val.back h (q1 := q) (q2 := true) (fun z => ⟨z, rfl⟩) fun d r1 x H1 w1 z1 s1 t1 q1 vx h1 => ?_)⟩
  obtain ⟨dz, e, h2⟩ := h1.lif
  cases d with
  | int i =>
    cases e
    exact ⟨i, vx, h2.end s1 rfl⟩
  | _ => cases e⟩
theorem de_gstr {x s : Str} {t : Tok} {l : List Nat} (hm : X.mg x = some (.str s t)) (hl : s.cps.toList = l := by decide +kernel) (hg : Gl X x := by rfl) (hd : (x == ("__debug__" : Str)) = false := by decide) : DE X T o true .S (.Name x pos) (fC (.str l)) := ⟨fun W _ =>
  ⟨_, pe_glob (v := .str s) hg hm ⟨t, rfl⟩ hd, fun r σ H w Q s1 g => g.end s1 (by
    show V.str s = V.str ⟨l.toArray⟩
    rw [← hl])⟩⟩
theorem de_gint {x : Str} {i : Int} {t : Tok} (hm : X.mg x = some (.int i t)) (hg : Gl X x := by rfl) (hd : (x == ("__debug__" : Str)) = false := by decide) : DE X T o true .S (.Name x pos) (fC (.int i)) := ⟨fun W _ =>
  ⟨_, pe_glob (v := .int i) hg hm ⟨t, rfl⟩ hd, fun r σ H w Q s1 g => g.end s1 rfl⟩⟩
/-! ### owned things read -/
def fOwnC (i : Nat) : M D := fun r => match r[i]? with
  | some (some (.lst ds)) => if ds.all leafy then .ok (.lst ds) r else .stk
  | _ => .stk
def fOwnR (i : Nat) : M D := fun r => match r[i]? with
  | some (some d) => if noObj d then .ok d r else .stk
  | _ => .stk
theorem de_ownC {i : Nat} {x : Str} (hm : mode o i ≠ 0 := by decide) (hN : X.N[i]? = some x := by rfl) (hv : Vis X.env.scope x := by first | exact Or.inl rfl | exact Or.inr (Or.inl rfl) | exact Or.inr (Or.inr rfl)) (hd : (x == ("__debug__" : Str)) = false := by decide)
    (hcd : (x == ("__classdict__" : Str)) = false := by decide) : DE X T o true .C (.Name x pos) (fOwnC i) := ⟨fun W _ => ⟨tVar i, pe_var hN hv hd hcd, fun r σ H w Q s g => by
  unfold fOwnC at g
  split at g
  · rename_i ds e
    split at g
    · rename_i hl
      obtain ⟨v, e1, e2⟩ := s.val i _ e
      rw [if_neg hm] at e2
      obtain ⟨p, vs, fps, rfl, eh, m, _⟩ := e2
      obtain ⟨m1, _⟩ := m_leafyL _ _ _ hl m
      exact ⟨.ref p, e1, g.end s ⟨p, vs, ds, rfl, rfl, eh, m1⟩⟩
    · exact g.elim
  · exact g.elim⟩⟩
theorem de_ownR {i : Nat} {x : Str} (hm : mode o i ≠ 0 := by decide) (hN : X.N[i]? = some x := by rfl) (hv : Vis X.env.scope x := by first | exact Or.inl rfl | exact Or.inr (Or.inl rfl) | exact Or.inr (Or.inr rfl)) (hd : (x == ("__debug__" : Str)) = false := by decide)
    (hcd : (x == ("__classdict__" : Str)) = false := by decide) : DE X T o true .R (.Name x pos) (fOwnR i) := ⟨fun W _ => ⟨tVar i, pe_var hN hv hd hcd, fun r σ H w Q s g => by
  unfold fOwnR at g
  split at g
  · rename_i d e
    split at g
    · rename_i hl
      obtain ⟨v, e1, e2⟩ := s.val i _ e
      rw [if_neg hm] at e2
      exact ⟨v, e1, g.end s (MRep.rep s.sub _ _ _ e2 (fun _ _ => rfl) hl)⟩
    · exact g.elim
  · exact g.elim⟩⟩
/-! ### owned lists written -/
theorem SR.own {i : Nat} {A : Addr} {u u0 : HO} {d0 d : D} {v : V} {r : Rho} {σ : L2.St} {H : Hp} {w : Wd} {K : PySem.W.Frag} (s : SR K T o r σ H w) (hm : mut' (mode o i) = true) (hr : r[i]? = some (some d0)) (hv : σ[i]? = some (some v)) (e0 : H A = some u0) (p1 : ∀ ps, u0 ≠ .tbl ps) (p2 : ∀ φ, u0 ≠ .ext φ) (p3 : ∀ ps, u ≠ .tbl ps)
    (hA : A ∈ w.fp i) (hM : MRep K T w.G (upd H A u) d v (w.fp i)) : SR K T o (r.set i (some d)) σ (upd H A u) w ∧ Stp o r σ H w (r.set i (some d)) σ (upd H A u) w := by
  have n0 : mode o i ≠ 0 := fun z => by rw [z] at hm; exact absurd hm (by decide)
  refine ⟨⟨fun a x e n => ?_, s.gtab, fun j dj e => ?_, s.off, fun j a ha => upd_some (s.live j a ha), s.dis, s.nd, fun j a ps ha => ?_, tabs_poke e0 p1 p2 s.tab, by simpa using s.len⟩,
    ⟨rfl, by simp, Sub.refl _, fun _ h => .inl h, fun a x e n m => ?_, fun a n => upd_some n, fun _ _ h => .inr (.inr h), fun j hj => ⟨?_, rfl⟩, fun _ _ => rfl, fun a φ e => by rw [upd_ne (fun z => by rw [z, e0] at e; exact p2 φ (Option.some.inj e))]; exact e⟩⟩
  · rw [upd_ne (fun z => by rw [z, s.off i A hA] at e; cases e)]; exact s.sub a x e n
  · by_cases hj : i = j
    · subst hj
      rw [List.getElem?_set, if_pos rfl] at e
      split at e
      · cases e
        exact ⟨v, hv, by rw [if_neg n0]; exact hM⟩
      · cases e
    · rw [List.getElem?_set, if_neg hj] at e
      obtain ⟨vj, e1, e2⟩ := s.val j dj e
      refine ⟨vj, e1, ?_⟩
      split at e2
      · rename_i hmj; rw [if_pos hmj]; exact e2
      · rename_i hmj
        rw [if_neg hmj]
        exact MRep.keep (Sub.refl _) _ _ _ e2 fun a ha => upd_ne fun z => hj (s.dis i j A hA (by rw [← z]; exact ha))
  · by_cases ha' : a = A
    · rw [ha', upd_same]; exact fun z => p3 ps (Option.some.inj z)
    · rw [upd_ne ha']; exact s.ntab j a ps ha
  · rw [upd_ne (fun z => m ⟨i, hm, by rw [z]; exact hA⟩)]; exact e
  · have n : i ≠ j := fun z => by rw [← z] at hj; rw [hj] at hm; exact absurd hm (by decide)
    rw [List.getElem?_set, if_neg n]
/-- x.append(e) -/
def isLst (r : Rho) (i : Nat) : Bool := match r[i]? with
  | some (some (.lst _)) => true
  | _ => false
def sApp (i : Nat) (f : M D) : Rho → Fl := fun r => if isLst r i then sE f (fun d r => match r[i]? with
  | some (some (.lst ds)) => if lim (ds.length + 1) && (ds.all leafy && leafy d) then .nx (r.set i (some (.lst (ds ++ [d])))) else .stk
  | _ => .stk) r else .stk
theorem own_lst {K : PySem.W.Frag} {r : Rho} {σ : L2.St} {H : Hp} {w : Wd} {i : Nat} (s : SR K T o r σ H w) (n0 : mode o i ≠ 0) (h : isLst r i = true) : ∃ ds A vs fps, r[i]? = some (some (.lst ds)) ∧ σ[i]? = some (some (.ref A)) ∧ H A = some (.lst vs) ∧ MRepL K T w.G H ds vs fps ∧ w.fp i = A :: fps := by
  unfold isLst at h
  split at h
  · rename_i ds e
    obtain ⟨v, e1, e2⟩ := s.val i _ e
    rw [if_neg n0] at e2
    obtain ⟨A, vs, fps, rfl, eh, m, ef⟩ := e2
    exact ⟨ds, A, vs, fps, e, e1, eh, m, ef⟩
  · cases h
theorem ds_app {i : Nat} {x : Str} {p : Pos} {apos cpos : Pos} (he : DE X T o q .S e f) 
    (hm : mut' (mode o i) = true := by rfl) (hN : X.N[i]? = some x := by rfl) (hv : Vis X.env.scope x := by first | exact Or.inl rfl | exact Or.inr (Or.inl rfl) | exact Or.inr (Or.inr rfl)) (hd : (x == ("__debug__" : Str)) = false := by decide) (hcd : (x == ("__classdict__" : Str)) = false := by decide)
    (hbase : attributeBase (.Name x p) "append" X.env (eval (.Name x p) X.env) = eval (.Name x p) X.env := by rfl)
    (hfew : ((backTo cpos (starEach (e :: []) X.env)).all (fun x => !x.1) && (backToKw cpos (keywordEach [] X.env)).all (fun x => x.1.isSome)
      && decide ((e :: []).length + ([] : List Keyword).length + (if ([] : List Keyword).isEmpty then 0 else 1) < 30)) = true := by rfl)
    (hline : (apos.endLine == cpos.line) = true := by rfl) (hs : starEach (e :: []) X.env = (false, eval e X.env) :: starEach [] X.env := by rfl) (hplain : (backTo cpos (starEach [] X.env)).any (·.1) = false := by rfl)
    (hsw : swapsWith (.Call (.Attribute (.Name x p) "append" apos) [e] [] cpos) none pos.line X.env = pure false := by rfl) :
    DS X T o kr (.Expr (.Call (.Attribute (.Name x p) "append" apos) [e] [] cpos) pos) (sApp i f) := ⟨fun W tk => by
  obtain ⟨tb, pb, gb⟩ := he.run W tk
  refine ⟨_, ps_expr (pe_bm F.plainAttrs_list F.slot_list_append F.type_list_append mt_append (pe_var hN hv hd hcd) (pa_cons pb pa_nil hs) hbase hfew hline hs hplain) hsw, fun r σ H w D s h => ?_⟩
  have n0 : mode o i ≠ 0 := fun z => by rw [z] at hm; exact absurd hm (by decide)
  unfold sApp at h
  split at h
  · rename_i hl
    obtain ⟨ds, A, vs, fps, e1, e2, e3, e4, e5⟩ := own_lst s n0 hl
    refine ⟨.ref A, e2, .inl ⟨rfl, vs, .inl (.inl e3)⟩, gb r σ H w _ s (GdS.fst h fun d r1 v H1 w1 z1 s1 t1 v1 h1 => ?_)⟩
    split at h1
    · rename_i ds1 er
      split at h1
      · rename_i hz
        simp only [Bool.and_eq_true] at hz
        obtain ⟨ds', A', vs', fps', a1, a2, a3, a4, a5⟩ := own_lst s1 n0 (by unfold isLst; rw [er])
        rw [er] at a1
        cases a1
        rw [e2] at a2
        cases a2
        refine ⟨A, vs', v, rfl, rfl, a3, ?_, ?_⟩
        · have := lim_sz hz.1
          have := a4.length
          omega
        · obtain ⟨m1, rfl⟩ := m_leafyL _ _ _ hz.2.1 a4
          have hM : MRep X.K T w1.G (upd H1 A (.lst (vs' ++ [v]))) (.lst (ds1 ++ [d])) (.ref A) (w1.fp i) := by
            refine ⟨A, vs' ++ [v], [], rfl, upd_same, leafyL_m _ _ (by rw [List.all_append, hz.2.1]; simpa using hz.2.2) (m1.append ⟨v, [], rfl, v1, rfl⟩), a5⟩
          obtain ⟨b1, b2⟩ := s1.own hm er e2 a3 (fun ps y => by cases y) (fun φ y => by cases y) (fun ps y => by cases y) (by rw [a5]; simp) hM
          exact h1 σ _ w1 b1 b2
      · exact h1.elim
    · exact h1.elim
  · exact h.elim⟩
/-- x[j] = e -/
def sPut (i : Nat) (fj f : M D) : Rho → Fl := sE f fun d r => if isLst r i then sE fj (fun j r => match r[i]?, j with
  | some (some (.lst ds)), .int j => match ixN ds.length j with
    | some n => if ds.all leafy && leafy d then .nx (r.set i (some (.lst (ds.set n d)))) else .stk
    | none => .stk
  | _, _ => .stk) r else .stk
theorem RepL.set {K : PySem.W.Frag} {G : Hp} {d : D} {v : V} : ∀ {ds : List D} {vs : List V} {n : Nat}, RepL K G ds vs → Rep K G d v → RepL K G (ds.set n d) (vs.set n v)
  | [], vs, n, h, _ => by rw [show vs = [] from h]; rfl
  | d0 :: ds, vs, n, ⟨v0, vs', e, r1, r2⟩, h => by
    subst e
    cases n with
    | zero => exact ⟨v, vs', rfl, h, r2⟩
    | succ n => exact ⟨v0, vs'.set n v, rfl, r1, r2.set h⟩
theorem all_set {p : D → Bool} {d : D} : ∀ {ds : List D} {n : Nat}, ds.all p = true → p d = true → (ds.set n d).all p = true
  | [], n, h, _ => rfl
  | d0 :: ds, 0, h, h2 => by
    simp only [List.all_cons, Bool.and_eq_true] at h
    simp only [List.set_cons_zero, List.all_cons, Bool.and_eq_true]
    exact ⟨h2, h.2⟩
  | d0 :: ds, n + 1, h, h2 => by
    simp only [List.all_cons, Bool.and_eq_true] at h
    simp only [List.set_cons_succ, List.all_cons, Bool.and_eq_true]
    exact ⟨h.1, all_set h.2 h2⟩
theorem ds_put {i : Nat} {x : Str} {p : Pos} {ej : Expr} {fj : M D} {tpos : Pos} (he : DE X T o qa .S e f) (hj : DE X T o qb .S ej fj)
    (hm : mut' (mode o i) = true := by rfl) (hN : X.N[i]? = some x := by rfl) (hv : Vis X.env.scope x := by first | exact Or.inl rfl | exact Or.inr (Or.inl rfl) | exact Or.inr (Or.inr rfl)) (hd : (x == ("__debug__" : Str)) = false := by decide) (hcd : (x == ("__classdict__" : Str)) = false := by decide)
    (ha : ∀ v, assign (.Subscript (.Name x p) ej tpos) X.env v = (do
      let ov ← holding [v] (eval (.Name x p) X.env)
      let iv ← holding [v, ov] (eval ej X.env)
      standAt tpos
      holding [v, ov, iv] (setItem ov iv v)
      release [v, ov, iv] []) := by intro _; rfl)
    (hs : swapsWithSole [.Subscript (.Name x p) ej tpos] e pos.line X.env = pure false := by rfl) (hw : swappedStores [.Subscript (.Name x p) ej tpos] e X.env = pure none := by rfl)
    (h1 : (assignEach [.Subscript (.Name x p) ej tpos] X.env).map (·.2) = [assign (.Subscript (.Name x p) ej tpos) X.env] := by rfl) :
    DS X T o kr (.Assign [.Subscript (.Name x p) ej tpos] e pos) (sPut i fj f) := ⟨fun W tk => by
  obtain ⟨tb, pb, gb⟩ := he.run W tk
  obtain ⟨tj, pj, gj⟩ := hj.run W tk
  refine ⟨_, ps_asg pb (pg_sub (pe_var hN hv hd hcd) pj set_list ha) hs hw h1, fun r σ H w D s h => ?_⟩
  have n0 : mode o i ≠ 0 := fun z => by rw [z] at hm; exact absurd hm (by decide)
  refine gb r σ H w _ s (GdS.fst h fun d r1 v H1 w1 z1 s1 t1 v1 h1 => ?_)
  split at h1
  · rename_i hl
    obtain ⟨ds, A, vs, fps, e1, e2, e3, e4, e5⟩ := own_lst s1 n0 hl
    refine ⟨.ref A, e2, gj r1 σ H1 w1 _ s1 (GdS.fst h1 fun dj r2 vj H2 w2 z2 s2 t2 v2 h2 => ?_)⟩
    split at h2
    · rename_i ds1 j er
      split at h2
      · rename_i n en
        split at h2
        · rename_i hz
          simp only [Bool.and_eq_true] at hz
          obtain ⟨ds', A', vs', fps', a1, a2, a3, a4, a5⟩ := own_lst s2 n0 (by unfold isLst; rw [er])
          rw [er] at a1
          cases a1
          rw [e2] at a2
          cases a2
          obtain ⟨m1, rfl⟩ := m_leafyL _ _ _ hz.1 a4
          have hM : MRep X.K T w2.G (upd H2 A (.lst (vs'.set n v))) (.lst (ds1.set n d)) (.ref A) (w2.fp i) :=
            ⟨A, vs'.set n v, [], rfl, upd_same, leafyL_m _ _ (all_set hz.1 hz.2) (m1.set (Rep.mono t2.grow _ _ v1)), a5⟩
          obtain ⟨b1, b2⟩ := s2.own hm er e2 a3 (fun ps y => by cases y) (fun φ y => by cases y) (fun ps y => by cases y) (by rw [a5]; simp) hM
          exact ⟨A, vs', j, n, rfl, v2, a3, by rw [← m1.length]; exact en, h2 σ _ w2 b1 b2⟩
        · exact h2.elim
      · exact h2.elim
    · exact h2.elim
  · exact h1.elim⟩
/-! ### methods of texts -/
def txL (s : List Nat) : D := .str s
/-- s.split(one sign) -/
def splD : D → D → Option D
  | .str s, .str [c] => if c < 256 && lim s.length then some (.lst ((TL.spl [c] 0 [] s).map .str)) else none
  | _, _ => none
theorem spl_len (c : Nat) : ∀ (s acc : List Nat), (TL.spl [c] 0 acc s).length ≤ s.length + 1
  | [], acc => by simp [TL.spl_nil]
  | a :: s, acc => by
    have ih := spl_len c s
    by_cases h : TL.pre [c] (a :: s) = true
    · rw [TL.spl_hit h]
      have := ih []
      simp only [List.length_cons]
      show (TL.spl [c] 0 [] s).length + 1 ≤ _
      omega
    · rw [TL.spl_miss (by simpa using h)]
      have := ih (acc ++ [a])
      simp only [List.length_cons]
      omega
theorem strs_rep {K : PySem.W.Frag} {G : Hp} : ∀ (ls : List (List Nat)), RepL K G (ls.map .str) (ls.map fun l => V.str ⟨l.toArray⟩)
  | [] => rfl
  | l :: ls => ⟨_, _, rfl, rfl, strs_rep ls⟩
theorem mg_split (hz : kz = .S ∨ kz = .F) : MG1 X T o .S .S kz (fun x xs H Q => ∃ a b, x = .str a ∧ xs = [.str b] ∧ (b.length == 0) = false ∧ a.length + 2 ≤ sizeLine ∧ rNewStrs (Txt.split a b) H Q) splD := by
  intro r σ H H0 w dx dy dz x y Q s hb vx vy e k
  unfold splD at e
  split at e
  · rename_i l c
    split at e
    · rename_i hc
      rw [Bool.and_eq_true] at hc
      cases e
      have hc1 : c < 256 := by simpa using hc.1
      have hl : l.length ≤ 100000 := of_decide_eq_true hc.2
      refine ⟨⟨l.toArray⟩, ⟨#[c]⟩, vx, by rw [show y = V.str ⟨[c].toArray⟩ from vy], by simp [Str.length], ?_, fun p hp => ?_⟩
      · rw [str_len]
        have : (100002 : Nat) ≤ sizeLine := by decide
        omega
      · have es : (Txt.split ⟨l.toArray⟩ ⟨#[c]⟩).map V.str = (TL.spl [c] 0 [] l).map fun m => V.str ⟨m.toArray⟩ := by
          have h := TL.split_spl ⟨l.toArray⟩ ⟨#[c]⟩ (by simp [TL.tl]) (TL.kind_ok (by simpa using hc1))
          have h' : (Txt.split ⟨l.toArray⟩ ⟨#[c]⟩).map TL.tl = TL.spl [c] 0 [] l := h
          rw [← h', List.map_map]
          refine List.map_congr_left fun z _ => ?_
          show V.str z = V.str ⟨(TL.tl z).toArray⟩
          rw [TL.mk_tl]
        rw [es]
        exact new_lst s hp (strs_rep _) hz (by rcases hz with rfl | rfl; rfl; simp [fitK, leafy]) k
    · cases e
  · cases e
def cntL (c : Nat) : List Nat → Int
  | [] => 0
  | a :: s => (if a = c then 1 else 0) + cntL c s
def cntD : D → D → Option D
  | .str s, .str [c] => some (.int (cntL c s))
  | _, _ => none
theorem cntL_eq (c : Nat) : ∀ s : List Nat, PyProof.Rows.cnt c s = cntL c s
  | [] => PyProof.Rows.cnt_nil c
  | a :: s => by rw [PyProof.Rows.cnt_cons, cntL_eq c s, cntL]
theorem mg_count : MG1 X T o .S .S .S (fun x xs H Q => ∃ a b, x = .str a ∧ xs = [.str b] ∧ Q (.int (Txt.count a b)) H) cntD := by
  intro r σ H H0 w dx dy dz x y Q s hb vx vy e k
  unfold cntD at e
  split at e
  · rename_i l c
    cases e
    refine ⟨⟨l.toArray⟩, ⟨#[c]⟩, vx, by rw [show y = V.str ⟨[c].toArray⟩ from vy], k _ H w s (Stp.refl _ _ _ _ _) (Quiet.refl _ _ _) ?_⟩
    show V.int (Txt.count ⟨l.toArray⟩ ⟨#[c]⟩) = V.int _
    rw [PyProof.Rows.count_is]
    show V.int (PyProof.Rows.cnt c l.toArray.toList) = _
    rw [cntL_eq]
  · cases e
def stripL (l r : Bool) (g : Nat → Bool) (s : List Nat) : List Nat :=
  let y := if l then s.dropWhile g else s
  if r then (y.reverse.dropWhile g).reverse else y
theorem drop_tw (g : Nat → Bool) : ∀ s : List Nat, s.drop (s.takeWhile g).length = s.dropWhile g
  | [] => rfl
  | a :: s => by
    by_cases h : g a
    · simp [h, drop_tw g s]
    · simp [h]
theorem take_tw (g : Nat → Bool) (s : List Nat) : s.take (s.length - (s.reverse.takeWhile g).length) = (s.reverse.dropWhile g).reverse := by
  have h := drop_tw g s.reverse
  rw [← h, List.drop_reverse, List.reverse_reverse]
theorem stripped_eq (g : Nat → Bool) (l r : Bool) (s : List Nat) : Txt.stripBy g l r ⟨s.toArray⟩ = ⟨(stripL l r g s).toArray⟩ := by
  have e0 : Txt.stripBy g l r ⟨s.toArray⟩ = stripped g l r ⟨s.toArray⟩ := by
    unfold Txt.stripBy
    split
    · rename_i h
      unfold stripSame at h
      simp only [Bool.and_eq_true, beq_iff_eq] at h
      obtain ⟨h1, h2⟩ := h
      rw [h1] at h2
      unfold stripped
      rw [h1, h2]
      unfold Builtin.Str.strSub
      simp [Str.length]
    · rfl
  rw [e0]
  unfold stripped Builtin.Str.strSub
  congr 1
  apply Array.toList_inj.mp
  simp only [Array.toList_extract, List.extract_eq_take_drop]
  unfold stripHi stripLo stripL
  cases l <;> cases r
  · simp [Str.length]
  · have := take_tw g s
    simpa [Str.length] using this
  · have := drop_tw g s
    simp only [if_true, Bool.false_eq_true, if_false]
    rw [this]
    refine List.take_of_length_le ?_
    rw [← this]
    simp [Str.length]
  · have h1 := drop_tw g s
    have h2 := take_tw g (s.dropWhile g)
    simp only [if_true]
    rw [h1, ← h2]
    congr 1
    have : (s.dropWhile g).length = s.length - (s.takeWhile g).length := by rw [← h1]; simp
    rw [this]
    simp only [Str.length, List.size_toArray]
    omega
def strpD (l r : Bool) : D → D → Option D
  | .str s, .str cs => if lim s.length then some (.str (stripL l r (fun c => cs.contains c) s)) else none
  | _, _ => none
theorem mg_strip (l r : Bool) {g : Str → Str → Str} (hg : ∀ a b, g a b = Txt.stripBy b.cps.contains l r a) : MG1 X T o .S .S .S (fun x xs H Q => ∃ a b, x = .str a ∧ xs = [.str b] ∧ a.length ≤ sizeLine ∧ Q (.str (g a b)) H) (strpD l r) := by
  intro r σ H H0 w dx dy dz x y Q s hb vx vy e k
  unfold strpD at e
  split at e
  · rename_i l c
    split at e
    · rename_i hl
      cases e
      refine ⟨⟨l.toArray⟩, ⟨c.toArray⟩, vx, by rw [show y = V.str ⟨c.toArray⟩ from vy], by rw [str_len]; exact lim_sz hl, k _ H w s (Stp.refl _ _ _ _ _) (Quiet.refl _ _ _) ?_⟩
      show V.str _ = V.str _
      rw [hg, stripped_eq]
      have : (⟨c.toArray⟩ : Str).cps.contains = fun x => c.contains x := by
        funext x
        simp
      rw [this]
    · cases e
  · cases e
def strsD : List D → Option (List (List Nat))
  | [] => some []
  | .str s :: ds => (strsD ds).map (s :: ·)
  | _ => none
theorem strsD_rep {K : PySem.W.Frag} {G : Hp} : ∀ {ds : List D} {vs : List V} {ls : List (List Nat)}, strsD ds = some ls → RepL K G ds vs → vs = (ls.map fun l => (⟨l.toArray⟩ : Str)).map V.str
  | [], vs, ls, h, r => by cases h; exact r
  | .str s :: ds, vs, ls, h, ⟨v, vs', e, r1, r2⟩ => by
    simp only [strsD, Option.map_eq_some_iff] at h
    obtain ⟨l2, h1, rfl⟩ := h
    subst e
    rw [strsD_rep h1 r2, show v = _ from r1]
    rfl
  | .non :: _, vs, ls, h, _ => by cases h
  | .bl _ :: _, vs, ls, h, _ => by cases h
  | .int _ :: _, vs, ls, h, _ => by cases h
  | .tup _ :: _, vs, ls, h, _ => by cases h
  | .lst _ :: _, vs, ls, h, _ => by cases h
  | .dct _ _ :: _, vs, ls, h, _ => by cases h
  | .obj _ _ :: _, vs, ls, h, _ => by cases h
  | .fn _ :: _, vs, ls, h, _ => by cases h
  | .scr _ :: _, vs, ls, h, _ => by cases h
def sumN : List Nat → Nat
  | [] => 0
  | a :: l => a + sumN l
def joinD : D → D → Option D
  | .str s, .lst ds => (strsD ds).bind fun ls => if lim (sumN (ls.map List.length) + ls.length * s.length) then some (.str (TL.joinL s ls)) else none
  | .str s, .tup ds => (strsD ds).bind fun ls => if lim (sumN (ls.map List.length) + ls.length * s.length) then some (.str (TL.joinL s ls)) else none
  | _, _ => none
theorem sumN_eq : ∀ l : List Nat, sumN l = l.sum
  | [] => rfl
  | a :: l => by rw [sumN, sumN_eq l, List.sum_cons]
theorem join_tl (s : List Nat) (ls : List (List Nat)) : Txt.join ⟨s.toArray⟩ (ls.map fun l => ⟨l.toArray⟩) = ⟨(TL.joinL s ls).toArray⟩ := by
  refine TL.ext_tl ?_
  rw [TL.join_eq, TL.tl_join]
  show TL.joinL s ((ls.map fun l => (⟨l.toArray⟩ : Str)).map TL.tl) = TL.joinL s ls
  rw [List.map_map]
  congr 1
  conv => rhs; rw [← List.map_id ls]
  rfl
theorem mg_join (hk : k2 = .S ∨ k2 = .C ∨ k2 = .F) : MG1 X T o .S k2 .S (fun x xs H Q => ∃ a p, ∃ ys : List Str, x = .str a ∧ xs = [.ref p] ∧ (SqL X.K H p (ys.map V.str) ∨ SqT X.K H p (ys.map V.str)) ∧
    (ys.map (·.length)).sum + ys.length * a.length ≤ 16777216 ∧ Q (.str (Txt.join a ys)) H) joinD := by
  intro r σ H H0 w dx dy dz x y Q s hb vx vy e k
  have lsz : ∀ (c : List Nat) (ls : List (List Nat)), lim (sumN (ls.map List.length) + ls.length * c.length) = true → ((ls.map fun l => (⟨l.toArray⟩ : Str)).map (·.length)).sum + (ls.map fun l => (⟨l.toArray⟩ : Str)).length * (⟨c.toArray⟩ : Str).length ≤ 16777216 := fun c ls h => by
    have h' : sumN (ls.map List.length) + ls.length * c.length ≤ 100000 := of_decide_eq_true h
    rw [List.map_map, List.length_map, str_len, sumN_eq] at *
    have e : ((fun x : Str => x.length) ∘ fun l : List Nat => (⟨l.toArray⟩ : Str)) = List.length := by funext l; exact str_len l
    rw [e]
    omega
  unfold joinD at e
  split at e
  · rename_i c ds
    simp only [Option.bind_eq_some_iff] at e
    obtain ⟨ls, e1, e2⟩ := e
    split at e2
    · rename_i hl
      cases e2
      have lf : ds.all leafy = true := by
        clear vy k hl
        induction ds generalizing ls with
        | nil => rfl
        | cons d ds ih =>
          cases d with
          | str s' =>
            simp only [strsD, Option.map_eq_some_iff] at e1
            obtain ⟨l2, h1, _⟩ := e1
            simp only [List.all_cons, Bool.and_eq_true]
            exact ⟨rfl, ih l2 h1⟩
          | _ => cases e1
      obtain ⟨a, vs, rfl, m, l⟩ := Val.asC s vy (hk.imp id (fun h => h.imp id fun h => ⟨h, lf⟩))
      refine ⟨⟨c.toArray⟩, a, ls.map (fun l => ⟨l.toArray⟩), vx, rfl, .inl (.inl (.inl (by rw [m, strsD_rep e1 l]))), lsz c ls hl, ?_⟩
      rw [join_tl]
      exact k _ H w s (Stp.refl _ _ _ _ _) (Quiet.refl _ _ _) rfl
    · cases e2
  · rename_i c ds
    simp only [Option.bind_eq_some_iff] at e
    obtain ⟨ls, e1, e2⟩ := e
    split at e2
    · rename_i hl
      cases e2
      have key : ∃ a vs, y = .ref a ∧ SqT X.K H a vs ∧ RepL X.K w.G ds vs := by
        rcases hk with rfl | rfl | rfl
        · obtain ⟨a, vs, e3, m, l⟩ := vy
          exact ⟨a, vs, e3, s.sub.t m, l⟩
        · obtain ⟨_, _, _, _, z, _⟩ := vy; cases z
        · obtain ⟨fp, m, _⟩ := vy
          obtain ⟨⟨a, vs, e3, m, l⟩, _⟩ := m
          exact ⟨a, vs, e3, s.sub.t m, l⟩
      obtain ⟨a, vs, rfl, m, l⟩ := key
      rw [strsD_rep e1 l] at m
      refine ⟨⟨c.toArray⟩, a, ls.map (fun l => ⟨l.toArray⟩), vx, rfl, .inr m, lsz c ls hl, ?_⟩
      rw [join_tl]
      exact k _ H w s (Stp.refl _ _ _ _ _) (Quiet.refl _ _ _) rfl
    · cases e2
  · cases e
end
end Mir

set_option Elab.async false
set_option linter.all false
set_option maxRecDepth 100000
set_option maxHeartbeats 1000000
namespace Mir
open PySem L2
/-! ### enumerate(a text) -/
def Itx (x : Str) : It := ⟨fun i _ => i < x.cps.size, fun i H v H' => ∃ N c, v = .ref N ∧ H N = none ∧ H' = upd H N (.tup [.int (i : Nat), .str ⟨#[c]⟩]) ∧ x.cps[i]? = some c, fun i _ => x.cps.size ≤ i⟩
theorem turn_enumX {P : Program} {w : World} {K : PySem.W.Frag} {elts : List Expr} {kk : Nat} {tpos : Pos} (e it : Addr) (x : Str) (t : Tok) :
    Turn P w K (.Tuple elts kk tpos) (Itx x) [e, it] e (fun i h => (∃ old, IsEnum h e it ((i : Nat) : Int) old) ∧ h.IsStrIter it (strIterType x) x t i ∧ e ≠ it ∧ i ≤ x.cps.size) where
  mem := by simp
  obj := fun i h st b hb => by
    obtain ⟨⟨old, he⟩, ⟨o, ho, hc, hd⟩, _⟩ := st
    rcases (show b = e ∨ b = it by simpa using hb) with z | z
    · rw [z]; exact ⟨_, he, fun v q => nomatch q⟩
    · rw [z]; exact ⟨o, ho, fun v q => by rw [hd] at q; cases q⟩
  keep := fun i h h' st k => by
    obtain ⟨⟨old, he⟩, ⟨o, ho, r⟩, n1, n2⟩ := st
    exact ⟨⟨old, k e (by simp) _ he⟩, ⟨o, k it (by simp) o ho, r⟩, n1, n2⟩
  item := by
    intro X hP hw hK hc i pins s σ H E I hf st hg
    subst hP hw hK
    obtain ⟨⟨old, he⟩, hit, hne, hle⟩ := st
    have hlt : i < x.cps.size := hg
    have hel : e < s.heap.objs.size := Heap.lt_size he
    have hil : it < s.heap.objs.size := by obtain ⟨_, q, _⟩ := hit; exact Heap.lt_size q
    refine wpAny_pyNext_enum_itemD (Draws.text (show X.A.in1.handled = none from I.ok.hd hc) it x t) he hit hlt hne (by simpa using hne) fun u h' tk hu ho hit' hT hsz hk => ?_
    obtain ⟨c, tc, hcx, rfl⟩ := hu
    refine ⟨_, rfl, wpAny_letOwnedTupleGo_enum (s := { s with heap := h', toks := tk + 1 }) ho fun h'' he' sb => ?_⟩
    have hT2 := (sb.2 _ (Nat.ne_of_gt hel)).trans hT
    have new : ObjOk X.prog X.w (upd H s.heap.objs.size (.tup [.int (i : Nat), .str ⟨#[c]⟩])) h'' s.heap.objs.size (.tup [.int (i : Nat), .str ⟨#[c]⟩]) :=
      ⟨by show 2 ≤ sizeLine; decide, [.int i tk, .str ⟨#[c]⟩ tc], .cons ⟨_, rfl⟩ (.cons ⟨_, rfl⟩ .nil), ⟨_, hT2, rfl, _, rfl⟩⟩
    have I1 := I.turnedNew (t' := tk + 1) (ch := [e, it]) (h' := h'') (fun b ob hb q => (sb.2 b (fun z => hb (by simp [z]))).trans (hk b ob (fun z => hb (by simp [z])) (fun z => hb (by simp [z])) q)) hf (Nat.le_refl _) new
    refine ⟨.ref s.heap.objs.size, _, I1, rfl, ⟨_, c, rfl, I.hok.fresh (Nat.le_refl _), rfl, hcx⟩, ⟨⟨.str ⟨#[c]⟩ tc, ?_⟩, ?_, hne, hlt⟩, fun b hb => ?_⟩
    · have e1 : ((i + 1 : Nat) : Int) = (i : Int) + 1 := by omega
      rw [e1]; exact he'
    · obtain ⟨o, q, r⟩ := hit'
      exact ⟨o, (sb.2 it (Ne.symm hne)).trans q, r⟩
    · have hb' : b < s.heap.objs.size := by
        rcases (show b = e ∨ b = it by simpa using hb) with z | z
        · rw [z]; exact hel
        · rw [z]; exact hil
      rw [upd_ne (Nat.ne_of_lt hb')]
      exact (hf b hb).1
  done := by
    intro X hP hw hK hc i pins s σ H E I hf st hg
    subst hP hw hK
    obtain ⟨⟨old, he⟩, hit, hne, hle⟩ := st
    have hge : x.cps.size ≤ i := hg
    have ei : i = x.cps.size := by omega
    subst ei
    obtain ⟨f0, f1, f2, f3, f4, f5⟩ := hf it (by simp)
    exact wpAny_pyNext_enum_endD (Draws.text (show X.A.in1.handled = none from I.ok.hd hc) it x t) he hit fun h' eb => ⟨rfl, I.turned (t' := s.toks) (fun b o hb q => eb b o hb q) f0 f1 f3 f4 f5⟩
  self := fun A i s Q E st h => let ⟨⟨_, he⟩, _⟩ := st; wpAny_pyIter_enum he h
def iEnumX (ta : TA) : TI := fun σ H R => ta σ H fun vs H1 => ∃ x, vs = [.str x] ∧ R (Itx x) H1
theorem pi_enumX {X : Cx} {e : Expr} {ta : TA} {p pos tpos : Pos} {elts : List Expr} {kk : Nat} (hg : Gl X "enumerate") (hm : X.mg "enumerate" = none) (ha : PA X [e] ta) (hs : starEach [e] X.env = [(false, eval e X.env)] := by rfl) :
    PI X (.Tuple elts kk tpos) (.Call (.Name "enumerate" p) [e] [] pos) (iEnumX ta) := by
  refine ⟨fun pins s σ H R I h => ?_⟩
  refine PyProof.Rows.Call_ (ld_blt I hg hm PyProof.Rows.boot_enumerate (PyProof.Rows.callWith_type1 (thn (ha.run pos pins s σ H _ I h) fun us s1 ⟨vs, H1, I1, r1, q1⟩ => ?_) hs rfl))
  obtain ⟨x, ex, q⟩ := q1
  subst ex
  cases r1 with
  | cons r rr =>
    cases rr
    obtain ⟨t, rfl⟩ := r
    refine call_enumerate_str fun h' he hit hsz hk => wpAny_pyIter_enum he ?_
    have I2 : Inv X pins σ H1 { s1 with heap := h' } := I1.kept (t' := s1.toks) hk
    refine ⟨s1.heap.objs.size + 1, [s1.heap.objs.size + 1, s1.heap.objs.size], _, _, H1, rfl, I2, turn_enumX (s1.heap.objs.size + 1) s1.heap.objs.size x t, ⟨⟨.none, he⟩, hit, Nat.succ_ne_self _, Nat.zero_le _⟩, fun b hb => ?_, q⟩
    have hle : s1.heap.objs.size ≤ b := by
      rcases (show b = s1.heap.objs.size + 1 ∨ b = s1.heap.objs.size by simpa using hb) with z | z
      · rw [z]; exact Nat.le_add_right _ _
      · rw [z]; exact Nat.le_refl _
    exact I1.fpOk hle (I1.hok.fresh hle)
def enumL : Int → List D → List D
  | _, [] => []
  | i, d :: ds => .tup [.int i, d] :: enumL (i + 1) ds
theorem enumL_get : ∀ {ds : List D} {i : Int} {j : Nat} {d : D}, (enumL i ds)[j]? = some d → ∃ d', ds[j]? = some d' ∧ d = .tup [.int (i + j), d']
  | [], i, j, d, h => by simp [enumL] at h
  | a :: ds, i, 0, d, h => by
    have h' : D.tup [.int i, a] = d := by simpa [enumL] using h
    exact ⟨a, rfl, by rw [← h']; simp⟩
  | a :: ds, i, j + 1, d, h => by
    obtain ⟨d', e1, e2⟩ := enumL_get (ds := ds) (i := i + 1) (j := j) (by simpa [enumL] using h)
    refine ⟨d', by simpa using e1, ?_⟩
    rw [e2]
    congr 3
    omega
theorem enumL_len : ∀ (ds : List D) (i : Int), (enumL i ds).length = ds.length
  | [], _ => rfl
  | d :: ds, i => by rw [enumL, List.length_cons, enumL_len ds, List.length_cons]
section
variable {X : Cx} {T : Tb} {o : Modes} {q qa qb : Bool} {k k1 k2 kz kr : Kd} {e a b : Expr} {es : List Expr} {pos p : Pos} {f fa fb : M D} {fl : M (List D)}
/-- a new pair -/
theorem wk_pair {K : PySem.W.Frag} {r : Rho} {σ : L2.St} {H : Hp} {w : Wd} {N : Addr} {ds : List D} {vs : List V} (s : SR K T o r σ H w) (hN : H N = none) (hr : RepL K w.G ds vs) : ∃ w', SR K T o r σ (upd H N (.tup vs)) w' ∧ Stp o r σ H w r σ (upd H N (.tup vs)) w' ∧ Rep K w'.G (.tup ds) (.ref N) := by
  refine ⟨w.add N (.tup vs), s.alloc hN (fun ps z => by cases z), Stp.alloc hN (s.gnone hN), N, vs, rfl, .inl (.inl upd_same), RepL.mono (sub_new (s.gnone hN)) _ _ hr⟩
theorem di_enumX {tpos : Pos} {elts : List Expr} {kk : Nat} (ha : DE X T o q .S e f) (hm : X.mg "enumerate" = none) (hg : Gl X "enumerate" := by rfl) (hs : starEach [e] X.env = [(false, eval e X.env)] := by rfl) (hs2 : starEach (e :: []) X.env = (false, eval e X.env) :: starEach [] X.env := by rfl) :
    DI X T o (.Tuple elts kk tpos) (.Call (.Name "enumerate" p) [e] [] pos) (fIt (fun d => (strO d).map (enumL 0)) f) := ⟨fun W tk => by
  obtain ⟨t, pe, ge⟩ := ha.run W tk
  refine ⟨_, pi_enumX hg hm (pa_cons pe pa_nil hs2) hs, fun r σ H w R s h => ge r σ H w _ s (GdI.of h fun d r1 v H1 w1 s1 t1 v1 h1 => ?_)⟩
  cases d with
  | str x =>
    refine ⟨_, by rw [show v = V.str ⟨x.toArray⟩ from v1], h1 _ H1 w1 s1 (Stp.refl _ _ _ _ _) fun i r2 σ2 H2 w2 s2 t2 => ?_⟩
    refine ⟨fun hi => (show x.toArray.size ≤ i by simpa [enumL_len] using hi), fun d hd => ?_⟩
    obtain ⟨d', e1, rfl⟩ := enumL_get hd
    rw [List.getElem?_map, Option.map_eq_some_iff] at e1
    obtain ⟨c, e1, rfl⟩ := e1
    refine ⟨(show i < x.toArray.size by rw [List.size_toArray]; exact (List.getElem?_eq_some_iff.mp e1).1), fun v H' y => ?_⟩
    obtain ⟨N, c', rfl, hN, rfl, e2⟩ := y
    have e3 : x[i]? = some c' := by simpa using e2
    rw [e1] at e3
    cases e3
    exact wk_pair (ds := [.int (0 + (i : Int)), .str [c]]) (vs := [.int (i : Nat), .str ⟨#[c]⟩]) s2 hN ⟨_, _, rfl, by rw [Int.zero_add]; rfl, ⟨_, _, rfl, rfl, rfl⟩⟩
  | _ => exact h1.elim⟩
theorem di_enumL {tpos : Pos} {elts : List Expr} {kk : Nat} (ha : DE X T o q .S e f) (hm : X.mg "enumerate" = none) (hg : Gl X "enumerate" := by rfl) (hs : starEach [e] X.env = [(false, eval e X.env)] := by rfl) (hs2 : starEach (e :: []) X.env = (false, eval e X.env) :: starEach [] X.env := by rfl) :
    DI X T o (.Tuple elts kk tpos) (.Call (.Name "enumerate" p) [e] [] pos) (fIt (fun d => (lstO d).map (enumL 0)) f) := ⟨fun W tk => by
  obtain ⟨t, pe, ge⟩ := ha.run W tk
  refine ⟨_, pi_enum hg hm (pa_cons pe pa_nil hs2) hs, fun r σ H w R s h => ge r σ H w _ s (GdI.of h fun d r1 v H1 w1 s1 t1 v1 h1 => ?_)⟩
  cases d with
  | lst x =>
    obtain ⟨A, vs, rfl, m, l⟩ := v1
    refine ⟨A, vs, rfl, .inl (.inl (s1.sub _ _ m (fun ps z => by cases z))), h1 _ H1 w1 s1 (Stp.refl _ _ _ _ _) fun i r2 σ2 H2 w2 s2 t2 => ?_⟩
    have m2 : SqL X.K H2 A vs := .inl (.inl (s2.sub _ _ (t2.grow _ _ m (fun ps z => by cases z)) (fun ps z => by cases z)))
    refine ⟨fun hi => ⟨vs, m2, by rw [← l.length]; simpa [enumL_len] using hi⟩, fun d hd => ?_⟩
    obtain ⟨d', e1, rfl⟩ := enumL_get hd
    obtain ⟨v', e2, e3⟩ := l.getD e1
    refine ⟨⟨vs, v', m2, e2⟩, fun v H' y => ?_⟩
    obtain ⟨N, c', rfl, hN, rfl, e4⟩ := y
    have e5 := e4 vs m2
    rw [e2] at e5
    cases e5
    exact wk_pair (ds := [.int (0 + (i : Int)), d']) (vs := [.int (i : Nat), v']) s2 hN ⟨_, _, rfl, by rw [Int.zero_add]; rfl, ⟨_, _, rfl, Rep.mono t2.grow _ _ e3, rfl⟩⟩
  | _ => exact h1.elim⟩
/-! ### built-ins by name -/
theorem room64 {k : Nat} {A : Around} (r : Room k A) : A.units + 64 < cLine := by have := r.un; omega
def lenN : D → Option D := fun d => match d with
  | .dct _ _ => none
  | d => lenD d
theorem de_len (hm : X.mg "len" = none) (ha : DE X T o qa k1 a fa) (hk : k1 ≠ .F := by nofun) (hg : Gl X "len" := by rfl) (hs : starEach (a :: []) X.env = (false, eval a X.env) :: starEach [] X.env := by rfl) (hpl : (backTo pos (starEach [] X.env)).any (·.1) = false := by rfl) :
    DE X T o qa .S (.Call (.Name "len" p) [a] [] pos) (fn1 lenN fa) := de_callB call_len hm boot_len (cg_len hk) ha hg (by decide) (by decide) hs hpl
theorem de_abs (hm : X.mg "abs" = none) (ha : DE X T o qa .S a fa) (hg : Gl X "abs" := by rfl) (hs : starEach (a :: []) X.env = (false, eval a X.env) :: starEach [] X.env := by rfl) (hpl : (backTo pos (starEach [] X.env)).any (·.1) = false := by rfl) :
    DE X T o qa .S (.Call (.Name "abs" p) [a] [] pos) (fn1 absD fa) := de_callB call_abs hm PyProof.Rows.boot_abs cg_abs ha hg (by decide) (by decide) hs hpl
theorem de_intc (hm : X.mg "int" = none) (ha : DE X T o qa .S a fa) (hg : Gl X "int" := by rfl) (hs : starEach (a :: []) X.env = (false, eval a X.env) :: starEach [] X.env := by rfl) (hpl : (backTo pos (starEach [] X.env)).any (·.1) = false := by rfl) :
    DE X T o qa .S (.Call (.Name "int" p) [a] [] pos) (fn1 intOfD fa) := de_callTy call_int1 hm PyProof.Rows.boot_int cg_int ha hg (by decide) (by decide) hs hpl
theorem de_sum (hm : X.mg "sum" = none) (ha : DE X T o qa k1 a fa) (hk : k1 = .S ∨ k1 = .C := by first | exact .inl rfl | exact .inr rfl) (hc : X.calm = true := by rfl) (hg : Gl X "sum" := by rfl) (hs : starEach (a :: []) X.env = (false, eval a X.env) :: starEach [] X.env := by rfl) (hpl : (backTo pos (starEach [] X.env)).any (·.1) = false := by rfl) :
    DE X T o qa .S (.Call (.Name "sum" p) [a] [] pos) (fn1 sumD fa) := de_callB (cr_sum hc) hm (by decide +kernel) (cg_sum hk) ha hg (by decide) (by decide) hs hpl
theorem de_max (hm : X.mg "max" = none) (ha : DE X T o qa k1 a fa) (hk : k1 = .S ∨ k1 = .C := by first | exact .inl rfl | exact .inr rfl) (hc : X.calm = true := by rfl) (hg : Gl X "max" := by rfl) (hs : starEach (a :: []) X.env = (false, eval a X.env) :: starEach [] X.env := by rfl) (hpl : (backTo pos (starEach [] X.env)).any (·.1) = false := by rfl) :
    DE X T o qa .S (.Call (.Name "max" p) [a] [] pos) (fn1 maxD fa) := de_callB (cr_max hc) hm (by decide +kernel) (cg_max hk) ha hg (by decide) (by decide) hs hpl
theorem de_min (hm : X.mg "min" = none) (ha : DE X T o qa k1 a fa) (hk : k1 = .S ∨ k1 = .C := by first | exact .inl rfl | exact .inr rfl) (hc : X.calm = true := by rfl) (hg : Gl X "min" := by rfl) (hs : starEach (a :: []) X.env = (false, eval a X.env) :: starEach [] X.env := by rfl) (hpl : (backTo pos (starEach [] X.env)).any (·.1) = false := by rfl) :
    DE X T o qa .S (.Call (.Name "min" p) [a] [] pos) (fn1 minD fa) := de_callB (cr_min hc) hm (by decide +kernel) (cg_min hk) ha hg (by decide) (by decide) hs hpl
theorem de_max2 (hm : X.mg "max" = none) (ha : DE X T o qa .S a fa) (hb : DE X T o qb .S b fb) (hc : X.calm = true := by rfl) (hg : Gl X "max" := by rfl) (hs : starEach (a :: b :: []) X.env = (false, eval a X.env) :: starEach (b :: []) X.env := by rfl) (hs2 : starEach (b :: []) X.env = (false, eval b X.env) :: starEach [] X.env := by rfl) (hpl : (backTo pos (starEach (b :: []) X.env)).any (·.1) = false := by rfl) :
    DE X T o (qa && qb) .S (.Call (.Name "max" p) [a, b] [] pos) (m2 max2D fa fb) := de_callB2 (call_max2 hc) hm (by decide +kernel) cg_max2 ha hb rfl hg (by decide) (by decide) hs hs2 hpl
theorem de_min2 (hm : X.mg "min" = none) (ha : DE X T o qa .S a fa) (hb : DE X T o qb .S b fb) (hc : X.calm = true := by rfl) (hg : Gl X "min" := by rfl) (hs : starEach (a :: b :: []) X.env = (false, eval a X.env) :: starEach (b :: []) X.env := by rfl) (hs2 : starEach (b :: []) X.env = (false, eval b X.env) :: starEach [] X.env := by rfl) (hpl : (backTo pos (starEach (b :: []) X.env)).any (·.1) = false := by rfl) :
    DE X T o (qa && qb) .S (.Call (.Name "min" p) [a, b] [] pos) (m2 min2D fa fb) := de_callB2 (call_min2 hc) hm (by decide +kernel) cg_min2 ha hb rfl hg (by decide) (by decide) hs hs2 hpl
theorem de_listc (hm : X.mg "list" = none) (ha : DE X T o qa k1 a fa) (hz : kz = .S ∨ kz = .F := by first | exact .inl rfl | exact .inr rfl) (hk : k1 = .S ∨ k1 = .C := by first | exact .inl rfl | exact .inr rfl) (hg : Gl X "list" := by rfl) (hs : starEach (a :: []) X.env = (false, eval a X.env) :: starEach [] X.env := by rfl) (hpl : (backTo pos (starEach [] X.env)).any (·.1) = false := by rfl) :
    DE X T o qa kz (.Call (.Name "list" p) [a] [] pos) (fn1 (listD kz) fa) := de_callTy call_list_of hm PyProof.Rows.boot_list (cg_list hz hk) ha hg (by decide) (by decide) hs hpl
theorem de_tuplec (hm : X.mg "tuple" = none) (ha : DE X T o qa k1 a fa) (hk : k1 = .S ∨ k1 = .C := by first | exact .inl rfl | exact .inr rfl) (hg : Gl X "tuple" := by rfl) (hs : starEach (a :: []) X.env = (false, eval a X.env) :: starEach [] X.env := by rfl) (hpl : (backTo pos (starEach [] X.env)).any (·.1) = false := by rfl) :
    DE X T o qa .S (.Call (.Name "tuple" p) [a] [] pos) (fn1 tupleD fa) := de_callTy call_tuple_of hm PyProof.Rows.boot_tuple (cg_tuple hk) ha hg (by decide) (by decide) hs hpl
section
variable {apos cpos : Pos}
theorem de_split (ha : DE X T o qa .S a fa) (hb : DE X T o qb .S b fb) (hz : kz = .S ∨ kz = .F := by first | exact .inl rfl | exact .inr rfl) (hbase : attributeBase a "split" X.env (eval a X.env) = eval a X.env := by rfl)
    (hfew : ((backTo cpos (starEach (b :: []) X.env)).all (fun x => !x.1) && (backToKw cpos (keywordEach [] X.env)).all (fun x => x.1.isSome)
      && decide ((b :: []).length + ([] : List Keyword).length + (if ([] : List Keyword).isEmpty then 0 else 1) < 30)) = true := by rfl)
    (hline : (apos.endLine == cpos.line) = true := by rfl) (hs : starEach (b :: []) X.env = (false, eval b X.env) :: starEach [] X.env := by rfl) (hplain : (backTo cpos (starEach [] X.env)).any (·.1) = false := by rfl) :
    DE X T o (qa && qb) kz (.Call (.Attribute a "split" apos) [b] [] cpos) (fM1 splD fa fb) := de_m1 mt_split (mg_split hz) F.plainAttrs_str F.slot_str_split F.type_str_split ha hb hbase hfew hline hs hplain
theorem de_count (ha : DE X T o qa .S a fa) (hb : DE X T o qb .S b fb) (hbase : attributeBase a "count" X.env (eval a X.env) = eval a X.env := by rfl)
    (hfew : ((backTo cpos (starEach (b :: []) X.env)).all (fun x => !x.1) && (backToKw cpos (keywordEach [] X.env)).all (fun x => x.1.isSome)
      && decide ((b :: []).length + ([] : List Keyword).length + (if ([] : List Keyword).isEmpty then 0 else 1) < 30)) = true := by rfl)
    (hline : (apos.endLine == cpos.line) = true := by rfl) (hs : starEach (b :: []) X.env = (false, eval b X.env) :: starEach [] X.env := by rfl) (hplain : (backTo cpos (starEach [] X.env)).any (·.1) = false := by rfl) :
    DE X T o (qa && qb) .S (.Call (.Attribute a "count" apos) [b] [] cpos) (fM1 cntD fa fb) := de_m1 mt_count mg_count F.plainAttrs_str F.slot_str_count F.type_str_count ha hb hbase hfew hline hs hplain
theorem de_strip (ha : DE X T o qa .S a fa) (hb : DE X T o qb .S b fb) (hbase : attributeBase a "strip" X.env (eval a X.env) = eval a X.env := by rfl)
    (hfew : ((backTo cpos (starEach (b :: []) X.env)).all (fun x => !x.1) && (backToKw cpos (keywordEach [] X.env)).all (fun x => x.1.isSome)
      && decide ((b :: []).length + ([] : List Keyword).length + (if ([] : List Keyword).isEmpty then 0 else 1) < 30)) = true := by rfl)
    (hline : (apos.endLine == cpos.line) = true := by rfl) (hs : starEach (b :: []) X.env = (false, eval b X.env) :: starEach [] X.env := by rfl) (hplain : (backTo cpos (starEach [] X.env)).any (·.1) = false := by rfl) :
    DE X T o (qa && qb) .S (.Call (.Attribute a "strip" apos) [b] [] cpos) (fM1 (strpD true true) fa fb) := de_m1 mt_stripChars (mg_strip true true fun _ _ => rfl) F.plainAttrs_str F.slot_str_strip F.type_str_strip ha hb hbase hfew hline hs hplain
theorem de_join (ha : DE X T o qa .S a fa) (hb : DE X T o qb k2 b fb) (hk : k2 = .S ∨ k2 = .C ∨ k2 = .F := by first | exact .inl rfl | exact .inr (.inl rfl) | exact .inr (.inr rfl)) (hbase : attributeBase a "join" X.env (eval a X.env) = eval a X.env := by rfl)
    (hfew : ((backTo cpos (starEach (b :: []) X.env)).all (fun x => !x.1) && (backToKw cpos (keywordEach [] X.env)).all (fun x => x.1.isSome)
      && decide ((b :: []).length + ([] : List Keyword).length + (if ([] : List Keyword).isEmpty then 0 else 1) < 30)) = true := by rfl)
    (hline : (apos.endLine == cpos.line) = true := by rfl) (hs : starEach (b :: []) X.env = (false, eval b X.env) :: starEach [] X.env := by rfl) (hplain : (backTo cpos (starEach [] X.env)).any (·.1) = false := by rfl) :
    DE X T o (qa && qb) .S (.Call (.Attribute a "join" apos) [b] [] cpos) (fM1 joinD fa fb) := de_m1 mt_join (mg_join hk) F.plainAttrs_str F.slot_str_join F.type_str_join ha hb hbase hfew hline hs hplain
end
end
end Mir

set_option Elab.async false
set_option linter.all false
set_option maxRecDepth 100000
set_option maxHeartbeats 1000000
namespace Mir
open PySem L2
/-- a def of the text, under its name -/
structure FnAt (K : PySem.W.Frag) (mg : Str → Option Value) (x : Str) (st : Stmt) (ps : List Str) (f : Addr) (fd : FuncData) : Prop where
  F : Fun K x x st f fd
  b : Binds K fd ps []
  g : mg x = some (.ref f)
abbrev valueErr : List Value := [.type "ValueError", .type "Exception", .type "BaseException", .type "object"]
/-- an error of the text, its class plain -/
structure ExAt (K : PySem.W.Frag) (mg : Str → Option Value) (x : Str) (C : Addr) : Prop where
  g : mg x = some (.ref C)
  x : PySem.W.excIn K C valueErr "ValueError.__new__" = true
  k : PySem.W.keepIn K (.ref C) = true
  b : PySem.W.subIn K (.ref C) (.type "BaseException") = some true
  t : PySem.W.typeIn K (.ref C) = some (.type "type")
  e : PySem.W.exmOne K (.ref C) (.ref C) = some true
theorem mk_raise {X : Cx} {x m : Str} {C : Addr} {j : Nat} {p p2 pos : Pos} (Z : ExAt X.K X.mg x C) (hg : Gl X x := by rfl) (hdb : (x == ("__debug__" : Str)) = false := by decide) : PMk X (.Call (.Name x p) [.Constant (.str m) j p2] [] pos) (fun _ H Q => Q (.ref C) none H) :=
  pmk_own PySem.F.excBase_ValueError Z.x Z.g Z.k (raises_own Z.b Z.t) hg hdb
end Mir

set_option Elab.async false
set_option linter.all false
set_option maxRecDepth 100000
set_option maxHeartbeats 1000000
namespace Mir
open PySem L2
/-! ### lambdas -/
/-- a table may have grown, a code object may be new -/
structure ExtA (H H1 : Hp) : Prop where
  keep : ∀ b u, H b = some u → (∀ ps, u ≠ .tbl ps) → H1 b = some u
  live : ∀ b, H b ≠ none → H1 b ≠ none
theorem ExtA.refl (H : Hp) : ExtA H H := ⟨fun _ _ h _ => h, fun _ h => h⟩
theorem ExtA.trans {H H1 H2 : Hp} (a : ExtA H H1) (b : ExtA H1 H2) : ExtA H H2 := ⟨fun c u h n => b.keep c u (a.keep c u h n) n, fun c h => b.live c (a.live c h)⟩
theorem SR.extA {K : PySem.W.Frag} {T : Tb} {o : Modes} {r : Rho} {σ : L2.St} {H H1 : Hp} {w : Wd} (s : SR K T o r σ H w) (e : ExtA H H1) (t : LamX.Tabs T.tabs H1) : SR K T o r σ H1 w ∧ Stp o r σ H w r σ H1 w := by
  have same : ∀ i a, a ∈ w.fp i → H1 a = H a := fun i a ha => by
    cases q : H a with
    | none => exact absurd q (s.live i a ha)
    | some u => exact e.keep a u q fun ps z => s.ntab i a ps ha (by rw [q, z])
  refine ⟨⟨fun a u g n => e.keep a u (s.sub a u g n) n, s.gtab, fun i d h => ?_, s.off, fun i a ha => e.live a (s.live i a ha), s.dis, s.nd, fun i a ps ha => by rw [same i a ha]; exact s.ntab i a ps ha, t, s.len⟩,
    ⟨rfl, rfl, Sub.refl _, fun _ h => .inl h, fun a u h n _ => e.keep a u h n, e.live, fun _ _ h => .inr (.inr h), fun _ _ => ⟨rfl, rfl⟩, fun _ _ => rfl, fun a φ h => e.keep a _ h (fun ps z => by cases z)⟩⟩
  obtain ⟨v, e1, e2⟩ := s.val i d h
  refine ⟨v, e1, ?_⟩
  split at e2
  · rename_i hm; rw [if_pos hm]; exact e2
  · rename_i hm; rw [if_neg hm]; exact MRep.keep (Sub.refl _) _ _ _ e2 fun a ha => same i a ha
abbrev lamO (X : Cx) (params : Arguments) (body : Expr) (scope : Scope) (pm : Value) (c' : Addr) (ctv : Value) : Obj := PySem.W.kla_obj "<lambda>" (X.env.qual ++ "<lambda>") params body scope (cloFrom X.env.cells scope.names []) pm c' ctv
section
variable {X : Cx} {pins : List (Addr × Obj)} {σ : L2.St} {H : Hp} {s : Shared}
theorem no_fr (I : L2.Inv X pins σ H s) {f : Addr} (hf : s.heap.objs.size ≤ f) : f ∉ frs X.stack := fun z => by
  rcases List.mem_cons.mp (I.stkSub _ z) with e | e
  · exact absurd I.lt (by rw [← e]; exact Nat.not_lt.mpr hf)
  · exact I.nofs hf e
theorem lam_new {tb : List (Addr × Str)} {c P : Addr} {params : Arguments} {body : Expr} {scope : Scope} {pos : Pos} {E : Value → Shared → Prop} {Q : Value → Shared → Prop} (I : L2.Inv X pins σ H s) (TB : LamX.TabB X.base X.mg c P) (hcode : X.env.code = .ref c)
    (hm : (P, X.env.qual ++ "<lambda>") ∈ tb) (hu : ∀ p ∈ tb, p.1 = P → p.2 = X.env.qual ++ "<lambda>") (hT : LamX.Tabs tb H) (hdef : defaultsOf params X.env = ([], [])) (hfree : ∀ y ∈ scope.names, y.2 = .free → ∃ c, X.env.cells.lookup y.1 = some c)
    (h : ∀ (f c' : Addr) (pm ctv : Value) (H1 : Hp) (s' : Shared), L2.Inv X pins σ H1 s' → ExtA H H1 → LamX.Tabs tb H1 → s'.heap.get? f = some (lamO X params body scope pm c' ctv) → s.heap.objs.size ≤ f → H1 f = none → H1 c' = some (LamX.CodeO c' (X.env.qual ++ "<lambda>")) → Q (.ref f) s') :
    wpAny (model X.prog X.w) X.A (eval (.Lambda params body scope pos) X.env) Q E s := by
  obtain ⟨ps, hP, ht, ha⟩ := hT _ hm
  have atP := I.hok P _ hP
  have bi := TB.bm.keeps I.bk
  refine PySem.W.kla_eval hdef ?_
  rcases hc : codeAmong pos ps.toList with _ | cv
  · refine PySem.W.kla_makeFunction (mg := X.mg) (c := c) (P := P) (ps := ps) (closure_ok hfree) I.ok.glob (I.mod.glob.keeps I.bk) hcode (TB.code.keeps I.bk) atP ht hc TB.gP bi fun c' ctv h' tk hx hge hlt hrec htb => ?_
    obtain ⟨_, oc, vs, t, ec, hoc, hd, hv⟩ := hrec
    cases ec
    have n1 : H c' = none := I.hok.fresh hge
    have big := Nat.le_trans hge (Nat.le_of_lt hlt)
    have J := LamX.inv_table (t' := tk) (more := #[rawInt pos.line, rawInt pos.col, .ref c']) (h' := h'.push (lamO X params body scope ((X.mg "__name__").getD .none) c' ctv)) I hP (fun b o hb e => Heap.get?_push_of_some _ (hx b o hb e)) (Heap.get?_push_of_some _ htb) hge
      ⟨oc, vs, t, Heap.get?_push_of_some _ hoc, hd, hv⟩
    have hE : ExtA H (upd (upd H P (.tbl (ps ++ #[rawInt pos.line, rawInt pos.col, .ref c']))) c' (LamX.CodeO c' (X.env.qual ++ "<lambda>"))) := by
      refine ⟨fun b u e n => ?_, fun b n => upd_some (upd_some n)⟩
      rw [upd_ne (ne_of_none e n1), upd_ne fun z => ?_]
      · exact e
      · rw [z, hP] at e
        exact n ps (Option.some.inj e).symm
    refine h _ c' _ ctv _ _ J hE (fun p hp => ?_) (Heap.get?_push_size _ rfl) big ?_ upd_same
    · by_cases hb : p.1 = P
      · rw [hu p hp hb, hb]
        have eL : (ps ++ #[rawInt pos.line, rawInt pos.col, .ref c']).toList = ps.toList ++ [rawInt pos.line, rawInt pos.col, .ref c'] := by simp
        refine ⟨_, by rw [upd_ne (ne_of_none hP n1), upd_same], by rw [eL]; exact PySem.TriplesOk_snoc _ _ _ _ ht, fun p' cv hcv => ?_⟩
        rw [eL] at hcv
        rcases LamX.among_app _ ht hcv with z | z
        · obtain ⟨c0, e1, e2⟩ := ha p' cv z
          exact ⟨c0, e1, hE.keep _ _ e2 LamX.codeO_ne⟩
        · exact ⟨c', z, upd_same⟩
      · obtain ⟨ps', a1, a2, a3⟩ := hT p hp
        refine ⟨ps', by rw [upd_ne (ne_of_none a1 n1), upd_ne hb]; exact a1, a2, fun p' cv hcv => ?_⟩
        obtain ⟨c0, e1, e2⟩ := a3 p' cv hcv
        exact ⟨c0, e1, hE.keep _ _ e2 LamX.codeO_ne⟩
    · rw [upd_ne (Nat.ne_of_gt hlt), upd_ne (Nat.ne_of_gt (Nat.lt_of_lt_of_le (Heap.lt_size atP) big))]
      exact I.hok.fresh big
  · obtain ⟨c', e, hco⟩ := ha pos cv hc
    subst e
    refine PySem.W.kla_makeFunctionHit (mg := X.mg) (c := c) (P := P) (ps := ps) (closure_ok hfree) I.ok.glob (I.mod.glob.keeps I.bk) hcode (TB.code.keeps I.bk) atP ht hc bi fun ctv h' tk hx hsz => ?_
    exact h h'.objs.size c' _ ctv H _ (I.kept fun b o e => Heap.get?_push_of_some _ (hx b o e)) (ExtA.refl H) hT (Heap.get?_push_size _ rfl) hsz (I.hok.fresh hsz) hco
end
end Mir

set_option Elab.async false
set_option linter.all false
set_option maxRecDepth 100000
set_option maxHeartbeats 1000000
namespace Mir
open PySem L2
/-- def x(a): try: return a() / except ..: return ret -/
structure ToldF (K : PySem.W.Frag) (mg : Str → Option Value) (x a ret : Str) (g CS : Addr) : Prop where
  m : mg x = some (.ref g)
  kp : PySem.W.keepIn K (.ref g) = true
  ex : ∃ (oc : Value) (od : Option Addr) (pg : Arguments) (bg : List Stmt) (sg : Scope) (dV kV doc pm : Value) (an : Option Addr) (cdv ct : Value) (osl : Array (Option Value)), K.lookup g = some ⟨oc, od, .func (PySem.W.fnOf x x pg bg sg dV kV doc pm an cdv ct), osl⟩ ∧ PySem.W.codeIn K cdv x = true ∧
    Binds K (PySem.W.fnOf x x pg bg sg dV kV doc pm an cdv ct) [a] [] ∧ FnScope [a] [a] sg ∧ Vis sg a ∧ ∀ (X : Cx) (q : Str), X.K = K → X.mg = mg → LamX.GivesTo X [a] x sg g cdv bg a q (LamX.TTold K CS ret)
/-- a lambda lies at f -/
structure LamAt (X : Cx) (s : Shared) (H : Hp) (params : Arguments) (body : Expr) (scope : Scope) (f : Addr) : Prop where
  ex : ∃ (pm : Value) (c' : Addr) (ctv : Value), s.heap.get? f = some (lamO X params body scope pm c' ctv) ∧ H c' = some (LamX.CodeO c' (X.env.qual ++ "<lambda>"))
  none : H f = none
  fr : f ∉ frs X.stack
/-- the text of a lambda without parameters -/
structure LamT (X : Cx) (params : Arguments) (body : Expr) (scope : Scope) : Prop where
  s : LamX.LamS X.env.scope scope
  d : defaultsOf params X.env = ([], [])
  b : ∀ (q : Str) (cl : List (Str × Addr)) (pm cv ctv : Value), bindArgs (PySem.W.kla_fn "<lambda>" q params body scope cl pm cv ctv) ⟨[], []⟩ = pure []
def fTold (ok : Nat → Bool) (ret : List Nat) (f : M D) : M D := fun r => match f r with
  | .ex c r' => if ok c then .ok (.str ret) r' else .stk
  | x => x
section
variable {X : Cx} {T : Tb} {o : Modes} {qb : Bool} {x a ret : Str} {g CS : Addr} {k : Nat} {params : Arguments} {body : Expr} {scope : Scope} {fb : M D}
/-- the body's derivation -/
abbrev LamD (X : Cx) (T : Tb) (o : Modes) (qb : Bool) (k : Nat) (body : Expr) (scope : Scope) (fb : M D) : Prop := ∀ (A : Around) (outer : List Env) (s : Shared) (H : Hp) (E : XK) (f c' : Addr), Room k (A.deeper (LamX.lamEnv X scope s.heap.objs.size f c')) → DE (LamX.lamCx X A outer s H E scope f c') T o qb .S body fb
theorem told_code {pins : List (Addr × Obj)} {σ : L2.St} {H : Hp} {s : Shared} {Q : VK} {f : Addr} (Z : ToldF X.K X.mg x a ret g CS) (L : LamT X params body scope) (hr : Room (k + 2) X.A) (hbody : LamD X T o qb k body scope fb) (hd : (a == ("__debug__" : Str)) = false) (hcd : (a == ("__classdict__" : Str)) = false)
    (I : L2.Inv X pins σ H s) (hl : LamAt X s H params body scope f) (h : tD X.K T o qb .S fb (fun cls _ _ H' => ∃ b, PySem.W.exmOne X.K cls (.ref CS) = some b ∧ (b = true → Q (.str ret) H') ∧ (b = false → False)) σ H Q) :
    codeAny (model X.prog X.w) X.A (.call (.ref g) ⟨[.ref f], []⟩) (CR C8.CX0 X.stack X.prog X.w H s Q C8.E0) s := by
  obtain ⟨oc, od, pg, bg, sg, dV, kV, doc, pm, an, cdv, ct, osl, lk, hcg, hb, Sg, hva, hG⟩ := Z.ex
  obtain ⟨pm', c', ctv, hf, hco⟩ := hl.ex
  refine LamX.run_ofS (N := [a]) (ps := [a]) (us := [.ref f]) (vs := [.ref f]) lk hcg Sg hr I.env0 (hb s [.ref f] I.kIn rfl) (.cons rfl .nil) rfl fun hr' => ?_
  obtain ⟨t', ht', hq'⟩ := hG X (X.env.qual ++ "<lambda>") rfl rfl f c' s H Q (fun E H' Q' => tD X.K T o qb .S fb (fun cls d _ H => E cls d H) σ H' Q')
    (fun W pn xe E p1 p2 tk hW => LamX.pe_act (i := 0) (k := k) I L.s hf hl.none hl.fr (L.b _ _ _ _ _) tk hW hr' (fun A outer s H hr2 => (hbody A outer s H E f c' hr2).pe (takes_of rfl rfl rfl rfl)) rfl hva hd hcd) hco h
  exact ⟨t', ht'.nox, hq'⟩
/-- what the told reading asks, from the mirror -/
theorem told_tD {W : WX} {r : Rho} {σ : L2.St} {H : Hp} {w : Wd} {Q : VK} {ok : Nat → Bool} {rl : List Nat} (hrl : ret.cps.toList = rl) (hex : ∀ c, ok c = true → PySem.W.exmOne X.K (.ref (T.exc c)) (.ref CS) = some true) (s : SR X.K T o r σ H w) (g : Gd X.K T o false (Val X.K T .S) W r σ H w (fTold ok rl fb r) Q) :
    tD X.K T o qb .S fb (fun cls _ _ H' => ∃ b, PySem.W.exmOne X.K cls (.ref CS) = some b ∧ (b = true → Q (.str ret) H') ∧ (b = false → False)) σ H Q := by
  refine ⟨r, w, s, ?_⟩
  unfold fTold at g
  cases e : fb r with
  | stk => rw [e] at g; exact g
  | ok d r1 =>
    rw [e] at g
    exact fun v H' w' s1 t1 _ v1 => g v H' w' s1 t1 (fun z => by cases z) v1
  | ex c r1 =>
    rw [e] at g
    have g' : Gd X.K T o false (Val X.K T .S) W r σ H w (if ok c then .ok (.str rl) r1 else .stk) Q := g
    split at g'
    · rename_i hk
      intro dd H' w' s1 t1
      refine ⟨true, hex c hk, fun _ => ?_, fun z => by cases z⟩
      refine g' (.str ret) H' w' s1 t1 (fun z => by cases z) ?_
      show V.str ret = V.str ⟨rl.toArray⟩
      rw [← hrl]
    · exact g'.elim
/-- x(lambda: body) -/
theorem de_told {c P : Addr} {p lpos pos : Pos} {ok : Nat → Bool} {rl : List Nat} (Z : ToldF X.K X.mg x a ret g CS) (TB : LamX.TabB X.base X.mg c P) (hcode : X.env.code = .ref c) (hmT : (P, X.env.qual ++ "<lambda>") ∈ T.tabs) (hu : ∀ p ∈ T.tabs, p.1 = P → p.2 = X.env.qual ++ "<lambda>")
    (hex : ∀ c, ok c = true → PySem.W.exmOne X.K (.ref (T.exc c)) (.ref CS) = some true) (hr : Room (k + 2) X.A) (hbody : LamD X T o qb k body scope fb)
    (hL : LamX.lamSB X.env.scope scope = true := by rfl) (hdef : defaultsOf params X.env = ([], []) := by rfl) (hbind : ∀ (q : Str) (cl : List (Str × Addr)) (pm cv ctv : Value), bindArgs (PySem.W.kla_fn "<lambda>" q params body scope cl pm cv ctv) ⟨[], []⟩ = pure [] := by intros; rfl)
    (hrl : ret.cps.toList = rl := by decide +kernel) (hg : Gl X x := by rfl) (hdb : (x == ("__debug__" : Str)) = false := by decide) (hd : (a == ("__debug__" : Str)) = false := by decide) (hcd : (a == ("__classdict__" : Str)) = false := by decide) :
    DE X T o false .S (.Call (.Name x p) [.Lambda params body scope lpos] [] pos) (fTold ok rl fb) := ⟨fun W tk => by
  refine ⟨fun σ H Q => ∃ r w, SR X.K T o r σ H w ∧ Gd X.K T o false (Val X.K T .S) W r σ H w (fTold ok rl fb r) Q, ⟨fun pins s σ H Q I h => ?_⟩, fun r σ H w Q s g => ⟨r, w, s, g⟩⟩
  obtain ⟨r, w, s1, gd⟩ := h
  have L := LamX.lamS_by hL
  refine wpAny_Call_Name_kw (ld_glob I hg Z.m ?_ hdb)
  refine PySem.W.callWith_K (h₀ := X.base) I.ok.mod.kin Z.kp ?_ (by rfl) (by rfl)
  show wpAny _ _ (spliced ((false, eval (.Lambda params body scope lpos) X.env) :: backTo pos (starEach [] X.env))) _ _ s
  refine Calls.spliced_cons (lam_new I TB hcode hmT hu s1.tab hdef (L.has I.ok) fun f c' pm' ctv H1 s' I1 eN T1 hf hge hfn hco => ?_)
  refine Calls.spliced_nil ⟨I1.kIn, ?_⟩
  obtain ⟨s2, t2⟩ := s1.extA eN T1
  have rc := told_code Z ⟨L, hdef, hbind⟩ hr hbody hd hcd I1 ⟨⟨pm', c', ctv, hf, hco⟩, hfn, no_fr I hge⟩ (told_tD hrl hex s2 (Gd.adv (q2 := false) Val.back t2 (fun z => by cases z) gd))
  refine wpAny_call (codeAny_mono rc fun r s2 hq => ?_)
  cases r with
  | error e => exact (show False from hq).elim
  | ok fl =>
    cases fl with
    | ret u => exact I1.after hq
    | next => exact False.elim hq
    | brk => exact False.elim hq
    | cont => exact False.elim hq⟩
end
end Mir

set_option Elab.async false
set_option linter.all false
set_option maxRecDepth 100000
set_option maxHeartbeats 1000000
namespace Mir
open PySem L2
/-! ### a list of lambdas, each told in turn -/
inductive DLs (X : Cx) (T : Tb) (o : Modes) (k : Nat) : List Expr → List (M D) → Prop
  | nil : DLs X T o k [] []
  | cons {qb : Bool} {params : Arguments} {body : Expr} {scope : Scope} {pos : Pos} {fb : M D} {es : List Expr} {fs : List (M D)} (t : LamT X params body scope) (h : LamD X T o qb k body scope fb) (rest : DLs X T o k es fs) : DLs X T o k (.Lambda params body scope pos :: es) (fb :: fs)
def LamsIn (X : Cx) (H : Hp) : List Expr → List Addr → List Obj → Prop
  | [], as, os => as = [] ∧ os = []
  | e :: es, as, os => ∃ (params : Arguments) (body : Expr) (scope : Scope) (pos : Pos) (a : Addr) (as' : List Addr) (pm : Value) (c' : Addr) (ctv : Value) (os' : List Obj), e = .Lambda params body scope pos ∧ as = a :: as' ∧ os = lamO X params body scope pm c' ctv :: os' ∧ H c' = some (LamX.CodeO c' (X.env.qual ++ "<lambda>")) ∧ a ∉ frs X.stack ∧ LamsIn X H es as' os'
theorem LamsIn.mono {X : Cx} {H H1 : Hp} (h : ∀ a φ, H a = some (.ext φ) → H1 a = some (.ext φ)) : ∀ {es : List Expr} {as : List Addr} {os : List Obj}, LamsIn X H es as os → LamsIn X H1 es as os
  | [], as, os, x => x
  | e :: es, as, os, ⟨p1, p2, p3, p4, a, as', pm, c', ctv, os', e1, e2, e3, e4, e5, r⟩ => ⟨p1, p2, p3, p4, a, as', pm, c', ctv, os', e1, e2, e3, h _ _ e4, e5, r.mono h⟩
theorem LamsIn.lens {X : Cx} {H : Hp} : ∀ {es : List Expr} {as : List Addr} {os : List Obj}, LamsIn X H es as os → as.length = es.length ∧ os.length = es.length
  | [], as, os, ⟨e1, e2⟩ => by subst e1 e2; exact ⟨rfl, rfl⟩
  | e :: es, as, os, ⟨p1, p2, p3, p4, a, as', pm, c', ctv, os', e1, e2, e3, e4, e5, r⟩ => by subst e2 e3; have := r.lens; simp [this.1, this.2]
section
variable {X : Cx} {T : Tb} {o : Modes} {k : Nat} {c P : Addr}
/-- the i-th: its text, its mirror, where it lies -/
theorem lams_get {H : Hp} : ∀ {es : List Expr} {fs : List (M D)} {as : List Addr} {os : List Obj} {i : Nat} {a : Addr}, DLs X T o k es fs → LamsIn X H es as os → as[i]? = some a →
    ∃ (qb : Bool) (params : Arguments) (body : Expr) (scope : Scope) (fb : M D) (pm : Value) (c' : Addr) (ctv : Value), fs[i]? = some fb ∧ os[i]? = some (lamO X params body scope pm c' ctv) ∧ LamT X params body scope ∧ LamD X T o qb k body scope fb ∧ H c' = some (LamX.CodeO c' (X.env.qual ++ "<lambda>")) ∧ a ∉ frs X.stack := by
  intro es fs as os i a d l e
  induction d generalizing as os i with
  | nil => rw [l.1] at e; simp at e
  | cons t h rest ih =>
    obtain ⟨p1, p2, p3, p4, a0, as', pm, c', ctv, os', e1, e2, e3, e4, e5, r⟩ := l
    cases e1
    subst e2 e3
    cases i with
    | zero =>
      simp at e
      subst e
      exact ⟨_, _, _, _, _, pm, c', ctv, rfl, rfl, t, h, e4, e5⟩
    | succ i => exact ih r (by simpa using e)
theorem lams_run (TB : LamX.TabB X.base X.mg c P) (hcode : X.env.code = .ref c) (hmT : (P, X.env.qual ++ "<lambda>") ∈ T.tabs) (hu : ∀ p ∈ T.tabs, p.1 = P → p.2 = X.env.qual ++ "<lambda>") {es : List Expr} {fs : List (M D)} (d : DLs X T o k es fs) (pos : Pos) :
    ∀ (pins : List (Addr × Obj)) (s : Shared) (σ : L2.St) (H : Hp) (Q : List Value → Shared → Prop), L2.Inv X pins σ H s → LamX.Tabs T.tabs H →
      (∀ (as : List Addr) (os : List Obj) (H1 : Hp) (s1 : Shared), L2.Inv X (pins ++ as.zip os) σ H1 s1 → ExtA H H1 → LamX.Tabs T.tabs H1 → LamsIn X H1 es as os → Q (as.map Value.ref) s1) →
      wpAny (model X.prog X.w) X.A (spliced (backTo pos (starEach es X.env))) Q X.xe s := by
  induction d with
  | nil =>
    intro pins s σ H Q I t h
    have := h [] [] H s (by simpa using I) (ExtA.refl H) t ⟨rfl, rfl⟩
    exact Calls.spliced_nil this
  | @cons qb params body scope lpos fb es fs t hb rest ih =>
    intro pins s σ H Q I tb h
    show wpAny _ _ (spliced ((false, eval (.Lambda params body scope lpos) X.env) :: backTo pos (starEach es X.env))) _ _ s
    refine Calls.spliced_cons (lam_new I TB hcode hmT hu tb t.d (t.s.has I.ok) fun a c' pm ctv H1 s1 I1 e1 t1 hf hge hfn hco => ?_)
    have I2 : L2.Inv X (pins ++ [(a, lamO X params body scope pm c' ctv)]) σ H1 s1 := I1.pins_of fun p hp => by
      rcases List.mem_append.mp hp with hp | hp
      · exact I1.pin p (List.mem_append_right _ hp)
      · have ep : p = (a, lamO X params body scope pm c' ctv) := by simpa using hp
        subst ep
        refine ⟨hf, hfn, fun z => ?_, I.nofs hge, fun v z => by cases z⟩
        exact absurd I.lt (by rw [← show a = X.env.locals from z]; exact Nat.not_lt.mpr hge)
    refine ih _ s1 σ H1 _ I2 t1 fun as os H2 s2 I3 e2 t2 l => ?_
    refine h (a :: as) (lamO X params body scope pm c' ctv :: os) H2 s2 (by simpa using I3) (e1.trans e2) t2 ?_
    exact ⟨params, body, scope, lpos, a, as, pm, c', ctv, os, rfl, rfl, rfl, e2.keep _ _ hco LamX.codeO_ne, no_fr I hge, l⟩
theorem dls_len {es : List Expr} {fs : List (M D)} (d : DLs X T o k es fs) : fs.length = es.length := by
  induction d with
  | nil => rfl
  | cons _ _ _ ih => simp [ih]
theorem zip_mem : ∀ {as : List Addr} {os : List Obj} {i : Nat} {a : Addr} {u : Obj}, as[i]? = some a → os[i]? = some u → (a, u) ∈ as.zip os
  | [], os, i, a, u, h, _ => by simp at h
  | b :: as, [], i, a, u, _, h => by simp at h
  | b :: as, v :: os, 0, a, u, h1, h2 => by simp at h1 h2; subst h1 h2; simp
  | b :: as, v :: os, i + 1, a, u, h1, h2 => List.mem_cons_of_mem _ (zip_mem (i := i) (by simpa using h1) (by simpa using h2))
/-- all of them raise what is told -/
def badL (ok : Nat → Bool) : List (M D) → Rho → Option Rho
  | [], r => some r
  | g :: gs, r => match g r with
    | .ex c r' => if ok c then badL ok gs r' else none
    | _ => none
/-- of nobody, at a -/
structure Limbo (H : Hp) (w : Wd) (a : Addr) (vs : List V) : Prop where
  at_ : H a = some (.lst vs)
  g : w.G a = none
  f : ∀ i, a ∉ w.fp i
theorem Limbo.step {r r1 : Rho} {σ σ1 : L2.St} {H H1 : Hp} {w w1 : Wd} {a : Addr} {vs : List V} (l : Limbo H w a vs) (t : Stp o r σ H w r1 σ1 H1 w1) : Limbo H1 w1 a vs := by
  obtain ⟨a1, a2, a3⟩ := t.limbo (by rw [l.at_]; simp) l.g l.f (fun ps => by rw [l.at_]; simp)
  exact ⟨a1.trans l.at_, a2, a3⟩
variable {x a ret fn bad : Str} {g CS : Addr} {ib jf : Nat} {ok : Nat → Bool}
/-- [1 for f in bad if x(f) != ret] -/
theorem bad_comp {es : List Expr} {fs : List (M D)} {as : List Addr} {os : List Obj} {pins : List (Addr × Obj)} {s : Shared} {σ : L2.St} {H : Hp} {Q : VK} {r rE : Rho} {w : Wd} {A : Addr} {scope : Scope} {j0 j1 : Nat} {q0 p1 p2 p3 p4 p5 p6 p7 pos : Pos}
    (hc : X.calm = true) (hN : X.N.Nodup) (Z : ToldF X.K X.mg x a ret g CS) (hr : Room (k + 2) X.A) (hex : ∀ c, ok c = true → PySem.W.exmOne X.K (.ref (T.exc c)) (.ref CS) = some true)
    (hib : X.N[ib]? = some bad) (hvb : Vis X.env.scope bad) (hjf : X.N[jf]? = some fn) (blk : BlkOk X.N X.env.scope scope [(fn, jf)]) (hm : mode o jf = 0)
    (hgl : ∀ s H C cl fp, Gl (Blk X scope s H C cl fp) x) (hlf : ∀ s H C cl fp, Loc (Blk X scope s H C cl fp).env.scope fn) (hfn : ∀ s H C cl fp, (Blk X scope s H C cl fp).fn fn = true ∨ (Blk X scope s H C cl fp).env.scope.names.lookup fn = some .local)
    (hdb : (x == ("__debug__" : Str)) = false) (hda : (a == ("__debug__" : Str)) = false) (hca : (a == ("__classdict__" : Str)) = false) (hdb2 : (bad == ("__debug__" : Str)) = false) (hcb2 : (bad == ("__classdict__" : Str)) = false) (hdf : (fn == ("__debug__" : Str)) = false) (hcf : (fn == ("__classdict__" : Str)) = false)
    (hst : ∀ s H C cl fp, starEach (.Name fn p4 :: []) (Blk X scope s H C cl fp).env = (false, eval (.Name fn p4) (Blk X scope s H C cl fp).env) :: starEach [] (Blk X scope s H C cl fp).env) (hpl : ∀ s H C cl fp, (backTo p5 (starEach [] (Blk X scope s H C cl fp).env)).any (·.1) = false)
    (hfs : ∀ y, foldedSetIterable (.Name bad p2) X.env y = pure y)
    (d : DLs X T o k es fs) (I : L2.Inv X pins σ H s) (hpin : ∀ p ∈ as.zip os, p ∈ pins) (L : LamsIn X H es as os) (S : SR X.K T o r σ H w) (hA : σ[ib]? = some (some (.ref A))) (lA : Limbo H w A (as.map V.ref)) (hb : badL ok fs r = some rE)
    (hQ : ∀ H' w' N, SR X.K T o rE σ H' w' → Stp o r σ H w rE σ H' w' → Limbo H' w' N [] → Q (.ref N) H') :
    wpAny (model X.prog X.w) X.A (eval (.ListComp (.Constant (.int 1) j0 q0) [⟨.Name fn p1, .Name bad p2, [.Compare (.Call (.Name x p3) [.Name fn p4] [] p5) [.NotEq] [.Constant (.str ret) j1 p6] p7], 0⟩] scope pos) X.env) (EP X pins σ Q) X.xe s := by
  have hfree : ∀ y ∈ scope.names, y.2 = .free → ∃ c, X.env.cells.lookup y.1 = some c := fun y hy e => (blk.free y hy e).elim (fun z => I.ok.has _ (.inl z)) fun z => I.ok.has _ (.inr z)
  have lens := L.lens
  rw [eval_ListComp]
  refine wpAny_comprehension_free (use := none) rfl hfs (closure_ok hfree) blk.kind (fun y hy e => by rw [blk.uniq y hy, e])
    (thn ((pi_list (tg := .Name fn p1) (pe_var hib hvb hdb2 hcb2)).run pins s σ H (fun J H1 => J = Itl X.K A ∧ H1 = H) I ⟨.ref A, hA, A, rfl, ⟨_, .inl (.inl lA.at_)⟩, rfl, rfl⟩) fun xv s1 hx => thn hx fun itv s2 h2 => ?_)
  obtain ⟨it, fp, tn, J, H2, rfl, I2, Tn, st2, f2, rfl, rfl⟩ := h2
  refine wpAny_newObj_type (newEnv_comp ?_) (by show 0 ≤ sizeLine; decide)
  generalize hN' : s2.heap.objs.size = N
  have nN : H2 N = none := I2.hok.fresh (Nat.le_of_eq hN')
  generalize hs3 : ({ s2 with heap := s2.heap.push { cls := .type "list", data := .seq ([] : List Value).toArray } } : Shared) = s3
  have I3 : L2.Inv X pins σ (upd H2 N (.lst [])) s3 := by
    subst hs3
    refine I2.laid (t' := s2.toks) (fun b u e => Heap.get?_push_of_some _ e) (Nat.le_of_eq hN') ⟨Nat.zero_le _, [], 0, .nil, ?_⟩
    subst hN'
    exact Heap.get?_push_size _ rfl
  have hp3 : s3.heap = s2.heap.push { cls := .type "list", data := .seq ([] : List Value).toArray } := by subst hs3; rfl
  have small : ∀ b ∈ fp, b < s2.heap.objs.size := fun b hb => let ⟨_, e, _⟩ := Tn.obj _ _ st2 b hb; Heap.lt_size e
  have f3 : ∀ b ∈ fp, FpOk X pins (upd H2 N (.lst [])) b ∧ b < s3.heap.objs.size := fun b hb => by
    have hlt := small b hb
    exact ⟨⟨by rw [upd_ne (by rw [← hN']; exact Nat.ne_of_lt hlt)]; exact (f2 b hb).1, (f2 b hb).2⟩, by rw [hp3, Heap.size_push]; exact Nat.lt_succ_of_lt hlt⟩
  have st3 : tn 0 s3.heap := Tn.keep _ _ _ st2 fun b _ u e => by rw [hp3]; exact Heap.get?_push_of_some _ e
  have I4 := block_start I3 blk hN f3
  show codeAny _ _ (.compStart _ 0 (.ref it) (.ref N) (compEnvC scope (cellsFrom (s3.heap.objs.size + 1) scope.names (cloFrom X.env.cells scope.names [])) s3.heap.objs.size X.env)) (compPost (model X.prog X.w) X.A X.xe none _ (.ref N) s3.heap.objs.size) { s3 with heap := pushCells (s3.heap.push { cls := .type "dict", data := .dict #[] }) scope.names }
  have S0 : SR X.K T o r σ (upd H2 N (.lst [])) w := S.fresh nN
  have T0 : Stp o r σ H2 w r σ (upd H2 N (.lst [])) w := Stp.fresh nN
  have lN : Limbo (upd H2 N (.lst [])) w N [] := ⟨upd_same, S.gnone nN, fun i hi => S.live i N hi nN⟩
  have nfp : ∀ b ∈ fp, upd H2 N (.lst []) b = none := fun b hb => (f3 b hb).1.1
  generalize hY : Blk X scope s3 (upd H2 N (.lst [])) s3.heap.objs.size (cellsFrom (s3.heap.objs.size + 1) scope.names (cloFrom X.env.cells scope.names [])) fp = Y
  have I4 : L2.Inv Y [] (L2.wipe σ [jf]) (upd H2 N (.lst [])) { s3 with heap := pushCells (s3.heap.push { cls := .type "dict", data := .dict #[] }) scope.names } := by subst hY; exact I4
  have back : ∀ {pins' : List (Addr × Obj)} {σ' : L2.St} {H' : Hp} {s' : Shared}, L2.Inv Y pins' σ' H' s' → L2.Inv X pins σ H' s' := fun {pins' σ' H' s'} J => by
    subst hY
    exact I3.call' (ch := fp) J.os J.base J.hok J.bare fun b hb => ⟨(f3 b hb).1.2.2.2.1, (f3 b hb).1.2.1, (f3 b hb).1.2.2.2.2.1, (f3 b hb).1.2.2.2.2.2⟩
  have own : ∀ {pins' : List (Addr × Obj)} {σ' : L2.St} {H' : Hp} {s' : Shared}, L2.Inv Y [] σ' H' s' → (∀ b ∈ fp, H' b = none) → ∀ b ∈ fp, FpOk Y [] H' b := fun {pins' σ' H' s'} J hn b hb => by
    subst hY
    exact ⟨hn b hb, (J.ok.exf b hb).1, J.ok.exfs b hb, .inl hb, fun y c e => (J.ok.exf b hb).2 y c e, fun p hp => absurd (show p ∈ ([] : List (Addr × Obj)) ++ [] from hp) (by simp)⟩
  have lfs := dls_len d
  -- x(f) in the block
  have hcall : PE Y (.Call (.Name x p3) [.Name fn p4] [] p5) (fun σ' H' Q' => ∃ (i : Nat) (ai : Addr) (r1 r2 : Rho) (w1 : Wd) (fb : M D) (cc : Nat), σ'[jf]? = some (some (.ref ai)) ∧ as[i]? = some ai ∧ fs[i]? = some fb ∧ SR X.K T o r1 σ H' w1 ∧ LamsIn X H' es as os ∧ fb r1 = .ex cc r2 ∧ ok cc = true ∧
      ∀ H'' w'', SR X.K T o r2 σ H'' w'' → Stp o r1 σ H' w1 r2 σ H'' w'' → Q' (.str ret) H'') := by
    refine ⟨fun pins' s' σ' H' Q' I' h => ?_⟩
    obtain ⟨i, ai, r1, r2, w1, fb, cc, h1, h2, h3, h4, h5, h6, h7, h8⟩ := h
    obtain ⟨qb, params, body, lsc, fb', pm, c', ctv, g1, g2, g3, g4, g5, g6⟩ := lams_get d h5 h2
    rw [h3] at g1
    cases g1
    have hvf : Vis Y.env.scope fn := by
      subst hY
      rcases hlf s3 (upd H2 N (.lst [])) s3.heap.objs.size _ fp with z | z
      · exact .inl z
      · exact .inr (.inl z)
    have gY : Gl Y x := by subst hY; exact hgl _ _ _ _ _
    have mY : Y.mg x = some (.ref g) := by subst hY; exact Z.m
    have NY : Y.N[jf]? = some fn := by subst hY; exact hjf
    have sY : starEach (.Name fn p4 :: []) Y.env = (false, eval (.Name fn p4) Y.env) :: starEach [] Y.env := by subst hY; exact hst _ _ _ _ _
    have pY : (backTo p5 (starEach [] Y.env)).any (·.1) = false := by subst hY; exact hpl _ _ _ _ _
    refine wpAny_Call_Name_kw (ld_glob I' gY mY ?_ hdb)
    have kpY : PySem.W.keepIn Y.K (.ref g) = true := by subst hY; exact Z.kp
    refine PySem.W.callWith_K (h₀ := Y.base) I'.ok.mod.kin kpY (thn ((pa_cons (pe_var NY hvf hdf hcf) pa_nil sY).run p5 pins' s' σ' H' (fun vs H1 => vs = [V.ref ai] ∧ H1 = H') I' ⟨.ref ai, h1, rfl, rfl⟩) fun us s1 hh => ?_) sY pY
    obtain ⟨vs, H1, I1, rv, rfl, rfl⟩ := hh
    refine ⟨I1.kIn, ?_⟩
    cases rv with
    | cons ra rn =>
      cases rn
      cases ra
      have IX := back I1
      obtain ⟨b1, b2, _⟩ := IX.pin (ai, lamO X params body lsc pm c' ctv) (List.mem_append_right _ (hpin _ (zip_mem h2 g2)))
      have rc := told_code (Q := Q') Z g3 hr g4 hda hca IX ⟨⟨pm, c', ctv, b1, g5⟩, b2, g6⟩ (by
        refine ⟨r1, w1, h4, ?_⟩
        rw [h6]
        intro dd Ha wa sa ta
        exact ⟨true, hex cc h7, fun _ => h8 Ha wa sa ta, fun z => by cases z⟩)
      have fin : codeAny (model Y.prog Y.w) Y.A (.call (.ref g) ⟨[.ref ai], []⟩) (CR C8.CX0 Y.stack Y.prog Y.w H1 s1 Q' C8.E0) s1 := by subst hY; exact rc
      refine wpAny_call (codeAny_mono fin fun q s2 hq => ?_)
      cases q with
      | error e => exact (show False from hq).elim
      | ok fl =>
        cases fl with
        | ret u => exact I1.after hq
        | next => exact False.elim hq
        | brk => exact False.elim hq
        | cont => exact False.elim hq
  have htest := pts_one (pt_cmpR (pos := p7) op_ne hcall (pe_str (x := ret) (j := j1) (pos := p6)) (nomark _))
  have pg : PG Y (.Name fn p1) (gName jf) := by subst hY; exact pg_name hN hjf (hlf _ _ _ _ _) (hfn _ _ _ _ _)
  generalize hs4 : ({ s3 with heap := pushCells (s3.heap.push { cls := .type "dict", data := .dict #[] }) scope.names } : Shared) = s4 at I4 ⊢
  have st4 : tn 0 s4.heap := Tn.keep _ _ _ st3 fun b _ u e => by rw [← hs4]; exact pushCells_keeps _ _ _ _ (Heap.get?_push_of_some _ e)
  have hcY : Y.calm = true := by subst hY; exact hc
  have eq1 : Y.prog = X.prog := by subst hY; rfl
  have eq2 : Y.w = X.w := by subst hY; rfl
  have eq3 : Y.K = X.K := by subst hY; rfl
  have eA : Y.A = X.A := by subst hY; rfl
  have eL : Y.env.locals = s3.heap.objs.size := by subst hY; rfl
  have eE : Y.env = compEnvC scope (cellsFrom (s3.heap.objs.size + 1) scope.names (cloFrom X.env.cells scope.names [])) s3.heap.objs.size X.env := by subst hY; rfl
  have eX : Y.xe = fun _ _ => False := by subst hY; rfl
  rw [← eE]
  have seq : ∀ {H' : Hp} {w' : Wd}, Limbo H' w' A (as.map V.ref) → SqL X.K H' A (as.map V.ref) := fun l => .inl (.inl l.at_)
  have loop : codeAny (model X.prog X.w) X.A (.compLoop (.ListComp (.Constant (.int 1) j0 q0) [⟨.Name fn p1, .Name bad p2, [.Compare (.Call (.Name x p3) [.Name fn p4] [] p5) [.NotEq] [.Constant (.str ret) j1 p6] p7], 0⟩] scope pos) 0 (.ref it) (.ref N) Y.env)
      (compPost (model X.prog X.w) X.A X.xe none (EP X pins σ Q) (.ref N) s3.heap.objs.size) s4 := by
    refine compLoop_any (fun m s' => ∃ i H' r' w', m = as.length - i ∧ i ≤ as.length ∧ L2.Inv Y [] (L2.wipe σ [jf]) H' s' ∧ tn i s'.heap ∧ (∀ b ∈ fp, H' b = none) ∧ SR X.K T o r' σ H' w' ∧ Stp o r σ H2 w r' σ H' w' ∧ Limbo H' w' A (as.map V.ref) ∧ Limbo H' w' N [] ∧ badL ok (fs.drop i) r' = some rE) ?_
      as.length ⟨0, upd H2 N (.lst []), r, w, by simp, Nat.zero_le _, I4, st4, nfp, S0, T0, lA.step T0, lN, hb⟩
    rintro n s5 ⟨i, H5, r5, w5, rfl, hi, I5, st5, n5, S5, T5, lA5, lN5, b5⟩
    by_cases hlt : i < as.length
    · have hgo : (Itl X.K A).go i H5 := ⟨as.map V.ref, .ref as[i], seq lA5, by simp [hlt]⟩
      have ti := Tn.item Y eq1 eq2 eq3 hcY i [] s5 _ H5 (fun _ _ => False) I5 (own (pins' := []) I5 n5) st5 hgo
      rw [eA] at ti
      refine thnF ti fun u s6 ⟨v, hv, h6⟩ => ?_
      subst hv
      refine thnF h6 fun _ s7 ⟨xv, H7, I7, r7, y7, st7, n7⟩ => ?_
      obtain ⟨rfl, y7⟩ := y7
      have ex : xv = .ref as[i] := by
        have z := y7 _ (seq lA5)
        rw [List.getElem?_map, List.getElem?_eq_getElem hlt] at z
        exact (Option.some.inj z).symm
      subst ex
      have I7' := I7.pinned (own (pins' := []) I7 n7) (Tn.obj _ _ st7)
      have hT := pg.run _ s7 _ H7 _ v (fun σ' H' => σ' = (L2.wipe σ [jf]).set jf (some (.ref as[i])) ∧ H' = H7) I7' r7 ⟨rfl, rfl⟩
      rw [eq1, eq2, eA, eX] at hT
      refine thnF hT fun _ s8 ⟨σ8, H8, I8, e8, e8'⟩ => ?_
      subst e8'
      have hjl : jf < (L2.wipe σ [jf]).length := by
        have z : (L2.wipe σ [jf]).length = Y.N.length := I5.len
        rw [z]
        have : Y.N = X.N := by subst hY; rfl
        rw [this]
        exact (List.getElem?_eq_some_iff.mp hjf).1
      have hfl : i < fs.length := by rw [lfs, ← lens.1]; exact hlt
      have ed : fs.drop i = fs[i] :: fs.drop (i + 1) := List.drop_eq_getElem_cons hfl
      rw [ed] at b5
      have key : ∃ cc r6, fs[i] r5 = .ex cc r6 ∧ ok cc = true ∧ badL ok (fs.drop (i + 1)) r6 = some rE := by
        unfold badL at b5
        split at b5
        · rename_i cc r6 e6
          split at b5
          · rename_i hk
            exact ⟨cc, r6, e6, hk, b5⟩
          · cases b5
        · cases b5
      obtain ⟨cc, r6, k1, k2, k3⟩ := key
      have hQ8 := htest.run _ s8 σ8 H8 (fun b H' => b = false ∧ ∃ w', SR X.K T o r6 σ H' w' ∧ Stp o r5 σ H8 w5 r6 σ H' w') I8 (by
        refine ⟨i, as[i], r5, r6, w5, fs[i], cc, by rw [e8, List.getElem?_set, if_pos rfl, if_pos hjl], by simp [hlt], by simp [hfl], S5, L.mono (fun q φ e => T5.kext q φ e), k1, k2, fun H'' w'' sa ta => ?_⟩
        exact ⟨rfl, ⟨_, rfl, by simp, w'', sa, ta⟩⟩)
      rw [eq1, eq2, eA, eX] at hQ8
      refine thnF hQ8 fun b s9 ⟨H9, I9, hb9, w9, S9, T9⟩ => ?_
      subst hb9
      rw [if_neg Bool.false_ne_true]
      refine ⟨as.length - (i + 1), by omega, i + 1, H9, r6, w9, rfl, hlt, ?_, ?_, fun b hb => ?_, S9, T5.trans T9, lA5.step T9, lN5.step T9, k3⟩
      · refine (I9.unpinned (pins := [])).weak (by rw [e8, List.length_set]) fun j v e => ?_
        obtain ⟨e1, e2⟩ := wipe_some e
        have nj : jf ≠ j := fun z => e2 (by simp [z])
        rw [e8, List.getElem?_set, if_neg nj]
        exact e
      · exact Tn.keep _ _ _ st7 fun b hb u e => (I9.pin (b, u) (List.mem_append_right _ (List.mem_append_right _ (mem_pinsAt hb e)))).1
      · obtain ⟨u, e, _⟩ := Tn.obj _ _ st7 b hb
        exact (I9.pin (b, u) (List.mem_append_right _ (List.mem_append_right _ (mem_pinsAt hb e)))).2.1
    · have ei : i = as.length := by omega
      have td := Tn.done Y eq1 eq2 eq3 hcY i [] s5 _ H5 (fun _ _ => False) I5 (own (pins' := []) I5 n5) st5 ⟨as.map V.ref, seq lA5, by simp [ei]⟩
      rw [eA] at td
      refine thnF td fun u s6 ⟨hu6, I6⟩ => ?_
      subst hu6
      have IX := back I6
      have ed : fs.drop i = [] := by rw [List.drop_eq_nil_iff, lfs, ← lens.1]; omega
      rw [ed] at b5
      cases b5
      have nC : H5 s3.heap.objs.size = none := by
        have z : H5 Y.env.locals = none := I6.free
        rw [eL] at z
        exact z
      obtain ⟨m, hn, _⟩ := I6.loc
      rw [eL] at hn
      refine ⟨m, hn, fun h'' sb => ?_⟩
      obtain ⟨f0, f1, f2', f3', f4, f5⟩ := I3.fpOk (Nat.le_refl _) nC
      exact ⟨.ref N, H5, IX.turned (t' := s6.toks) (fun b u hb e => (sb.2 b hb).trans e) f0 f1 f3' f4 f5, rfl, hQ H5 w5 N S5 T5 lN5⟩
  exact codeAny_compStart_list loop (Tn.self X.A 0 _ _ _ st4 loop)
end
end Mir

set_option Elab.async false
set_option linter.all false
set_option maxRecDepth 100000
set_option maxHeartbeats 1000000
namespace Mir
open PySem L2
theorem vals_refs : ∀ as : List Addr, Vals (as.map V.ref) (as.map Value.ref)
  | [] => .nil
  | a :: as => .cons rfl (vals_refs as)
def sBad (ib : Nat) (ok : Nat → Bool) (gs : List (M D)) (gb : M Bool) (fbody rest : Rho → Fl) : Rho → Fl := fun r => match badL ok gs (r.set ib none) with
  | none => .stk
  | some rE => sS (sE gb fun b => if b then fbody else sNx) rest rE
section
variable {X : Cx} {T : Tb} {o : Modes} {k : Nat} {kr : Kd} {qb : Bool} {c P : Addr} {x a ret fn bad : Str} {g CS : Addr} {ib jf : Nat} {ok : Nat → Bool} {es : List Expr} {fs : List (M D)} {b : Expr} {more : List Expr} {gb : M Bool} {body rest : List Stmt} {fbody frest : Rho → Fl} {scope : Scope} {j0 j1 : Nat} {q0 p1 p2 p3 p4 p5 p6 p7 pos lpos spos tpos cpos bpos ipos lp2 : Pos}
/-- bad = [lambda: .., ..]; if [1 for f in bad if x(f) != ret] != [] or ..: .. -/
theorem dss_bad (hN : X.N.Nodup) (Z : ToldF X.K X.mg x a ret g CS) (TB : LamX.TabB X.base X.mg c P) (hcode : X.env.code = .ref c) (hmT : (P, X.env.qual ++ "<lambda>") ∈ T.tabs) (hu : ∀ p ∈ T.tabs, p.1 = P → p.2 = X.env.qual ++ "<lambda>")
    (hex : ∀ c, ok c = true → PySem.W.exmOne X.K (.ref (T.exc c)) (.ref CS) = some true) (hr : Room (k + 2) X.A) (d : DLs X T o k es fs) (hb : DW X T o qb (.BoolOp .Or (b :: more) bpos) gb) (hbody : DSs X T o kr body fbody) (hrest : DSs X T o kr rest frest)
    (hib : X.N[ib]? = some bad := by rfl) (hxb : Loc X.env.scope bad := by first | exact .inl rfl | exact .inr rfl) (hfb : X.fn bad = true ∨ X.env.scope.names.lookup bad = some .local := by first | exact .inl rfl | exact .inr rfl) (hmb : mode o ib = 0 := by rfl)
    (hjf : X.N[jf]? = some fn := by rfl) (blk : blkC X.N X.env.scope scope [(fn, jf)] = true := by rfl) (hm : mode o jf = 0 := by rfl) (hc : X.calm = true := by rfl)
    (hgl : ∀ s H C cl fp, Gl (Blk X scope s H C cl fp) x := by intros; rfl) (hlf : ∀ s H C cl fp, Loc (Blk X scope s H C cl fp).env.scope fn := by intros; first | exact .inl rfl | exact .inr rfl) (hfn : ∀ s H C cl fp, (Blk X scope s H C cl fp).fn fn = true ∨ (Blk X scope s H C cl fp).env.scope.names.lookup fn = some .local := by intros; first | exact .inl rfl | exact .inr rfl)
    (hdb : (x == ("__debug__" : Str)) = false := by decide) (hda : (a == ("__debug__" : Str)) = false := by decide) (hca : (a == ("__classdict__" : Str)) = false := by decide) (hdb2 : (bad == ("__debug__" : Str)) = false := by decide) (hcb2 : (bad == ("__classdict__" : Str)) = false := by decide) (hdf : (fn == ("__debug__" : Str)) = false := by decide) (hcf : (fn == ("__classdict__" : Str)) = false := by decide)
    (hst : ∀ s H C cl fp, starEach (.Name fn p4 :: []) (Blk X scope s H C cl fp).env = (false, eval (.Name fn p4) (Blk X scope s H C cl fp).env) :: starEach [] (Blk X scope s H C cl fp).env := by intros; rfl) (hpl : ∀ s H C cl fp, (backTo p5 (starEach [] (Blk X scope s H C cl fp).env)).any (·.1) = false := by intros; rfl)
    (hfs : ∀ y, foldedSetIterable (.Name bad p2) X.env y = pure y := by intro _; rfl) (hlen : es.length ≤ 1000 := by decide)
    (hsw : swapsWith (.List es lpos) (some (.Name bad tpos)) spos.line X.env = pure false := by rfl) :
    DSs X T o kr (.Assign [.Name bad tpos] (.List es lpos) spos :: .If (.BoolOp .Or (.Compare (.ListComp (.Constant (.int 1) j0 q0) [⟨.Name fn p1, .Name bad p2, [.Compare (.Call (.Name x p3) [.Name fn p4] [] p5) [.NotEq] [.Constant (.str ret) j1 p6] p7], 0⟩] scope pos) [.NotEq] [.List [] lp2] cpos :: b :: more) bpos) body [] ipos :: rest) (sBad ib ok fs gb fbody frest) := ⟨fun W tk => by
  obtain ⟨tb, pb, gbR⟩ := hb.run W tk
  obtain ⟨tbo, pbo, gbo⟩ := hbody.run W tk
  obtain ⟨tre, pre, gre⟩ := hrest.run W tk
  refine ⟨fun D σ H => ∃ r w, SR X.K T o r σ H w ∧ GdS X.K T o kr W r σ H w (sBad ib ok fs gb fbody frest r) D, ⟨fun pins s σ H D I h => ?_⟩, fun r σ H w D s g => ⟨r, w, s, g⟩⟩
  obtain ⟨r, w, S, G⟩ := h
  refine wpAny_execs_cons (wpAny_Assign_Name (wpAny_List_spliced (lams_run TB hcode hmT hu d lpos pins s σ H _ I S.tab fun as os H1 s1 I1 e1 t1 L => ?_)) hsw)
  have ll := L.lens
  refine ⟨by rw [List.length_map, ll.1]; exact Nat.le_trans hlen (by decide), ?_⟩
  generalize hA : s1.heap.objs.size = A
  have nA : H1 A = none := I1.hok.fresh (Nat.le_of_eq hA)
  have I2 : L2.Inv X (pins ++ as.zip os) σ (upd H1 A (.lst (as.map V.ref))) { s1 with heap := s1.heap.push { cls := .type "list", data := .seq (as.map Value.ref).toArray } } := by
    subst hA
    refine I1.laid (t' := s1.toks) (fun q u e => Heap.get?_push_of_some _ e) (Nat.le_refl _) ⟨by rw [List.length_map, ll.1]; exact Nat.le_trans hlen (by decide), as.map Value.ref, 0, vals_refs as, Heap.get?_push_size _ rfl⟩
  obtain ⟨S1, T1⟩ := S.extA e1 t1
  have S2 : SR X.K T o r σ (upd H1 A (.lst (as.map V.ref))) w := S1.fresh nA
  have T2 : Stp o r σ H w r σ (upd H1 A (.lst (as.map V.ref))) w := T1.trans (Stp.fresh nA)
  have lA : Limbo (upd H1 A (.lst (as.map V.ref))) w A (as.map V.ref) := ⟨upd_same, S1.gnone nA, fun i hi => S1.live i A hi nA⟩
  refine store_ok (v := .ref A) I2 hN hib hxb rfl (fun s3 I3 => ?_) hfb
  have S3 : SR X.K T o (r.set ib none) (σ.set ib (some (.ref A))) (upd H1 A (.lst (as.map V.ref))) w := by
    refine ⟨S2.sub, S2.gtab, fun i di e => ?_, S2.off, S2.live, S2.dis, S2.nd, S2.ntab, S2.tab, by simpa using S2.len⟩
    by_cases hi : ib = i
    · subst hi
      rw [List.getElem?_set, if_pos rfl] at e
      split at e <;> cases e
    · rw [List.getElem?_set, if_neg hi] at e
      obtain ⟨v, e2, e3⟩ := S2.val i di e
      exact ⟨v, by rw [List.getElem?_set, if_neg hi]; exact e2, e3⟩
  have T3 : Stp o r σ H w (r.set ib none) (σ.set ib (some (.ref A))) (upd H1 A (.lst (as.map V.ref))) w := by
    refine ⟨by simp, by simp, T2.grow, T2.newG, T2.keep, T2.alive, T2.fps, fun i hi => ?_, fun i hi => ?_, T2.kext⟩
    · have n : ib ≠ i := fun z => by rw [← z, hmb] at hi; cases hi
      rw [List.getElem?_set, if_neg n]
      exact T2.fix i hi
    · have n : ib ≠ i := fun z => by rw [← z, hmb] at hi; exact absurd hi (by decide)
      rw [List.getElem?_set, if_neg n]
  have ilt : ib < σ.length := by rw [I.len]; exact (List.getElem?_eq_some_iff.mp hib).1
  unfold sBad at G
  cases eb : badL ok fs (r.set ib none) with
  | none => rw [eb] at G; exact G.elim
  | some rE =>
    rw [eb] at G
    have G : GdS X.K T o kr W r σ H w (sS (sE gb fun q => if q then fbody else sNx) frest rE) D := G
    have hvb : Vis X.env.scope bad := by
      rcases hxb with z | z
      · exact .inl z
      · exact .inr (.inl z)
    -- the if
    refine wpAny_execs_cons (thn (Q := SP X pins { D with nx := fun σ' H' => ∃ r' w', SR X.K T o r' σ' H' w' ∧ GdS X.K T o kr W r' σ' H' w' (frest r') D }) (wpAny_If ?_) fun f s4 q => ?_)
    · have hcmp := bad_comp (s := s3) (σ := σ.set ib (some (.ref A))) (w := w) (Q := fun v H' => ∃ w' N, v = .ref N ∧ SR X.K T o rE (σ.set ib (some (.ref A))) H' w' ∧ Stp o (r.set ib none) (σ.set ib (some (.ref A))) (upd H1 A (.lst (as.map V.ref))) w rE (σ.set ib (some (.ref A))) H' w' ∧ Limbo H' w' N [])
        (j0 := j0) (j1 := j1) (q0 := q0) (p1 := p1) (p2 := p2) (p3 := p3) (p4 := p4) (p5 := p5) (p6 := p6) (p7 := p7) (pos := pos)
        hc hN Z hr hex hib hvb hjf (blkOk_by blk) hm hgl hlf hfn hdb hda hca hdb2 hcb2 hdf hcf hst hpl hfs d I3 (fun p hp => List.mem_append_right _ hp) (L.mono (fun q φ e => by rw [upd_ne (ne_of_none e nA)]; exact e)) S3
        (by rw [List.getElem?_set, if_pos rfl, if_pos ilt]) lA eb (fun H' w' N a1 a2 a3 => ⟨w', N, rfl, a1, a2, a3⟩)
      refine PyProof.Rows.isTrue_or (thn (Q := fun q s5 => q = false ∧ ∃ H5 w5, L2.Inv X (pins ++ as.zip os) (σ.set ib (some (.ref A))) H5 s5 ∧ SR X.K T o rE (σ.set ib (some (.ref A))) H5 w5 ∧ Stp o (r.set ib none) (σ.set ib (some (.ref A))) (upd H1 A (.lst (as.map V.ref))) w rE (σ.set ib (some (.ref A))) H5 w5) ?_ fun q s5 hq => ?_)
      · refine wpAny_isTrue_Compare1 (thn hcmp fun v s5 ⟨xv, H5, I5, r5, w5, N, ev, S5, T5, l5⟩ => thn ((pe_lst (pos := lp2) pa_nil).run _ s5 _ H5 (fun y H6 => ∃ p, H5 p = none ∧ y = .ref p ∧ H6 = upd H5 p (.lst [])) I5 ⟨Nat.zero_le _, fun p hp => ⟨p, hp, rfl, rfl⟩⟩) fun u s6 ⟨yv, H6, I6, r6, p, hp, ey, e6⟩ => ?_) (nomark _)
        subst ev ey e6
        have S6 := S5.fresh (u := .lst []) hp
        have T6 := T5.trans (Stp.fresh (u := .lst []) hp)
        refine thn ((op_neD (room64 hr)) _ s6 _ _ _ _ v u (fun z H7 => z = .bl false ∧ ∃ w7, SR X.K T o rE (σ.set ib (some (.ref A))) H7 w7 ∧ Stp o (r.set ib none) (σ.set ib (some (.ref A))) (upd H1 A (.lst (as.map V.ref))) w rE (σ.set ib (some (.ref A))) H7 w7) I6 r5 r6 ?_) fun cc s7 ⟨z, H7, I7, r7, ez, w7, S7, T7⟩ => ?_
        · refine og_ne (X := X) (T := T) (o := o) (k1 := .R) (k2 := .R) rE _ _ (upd H5 p (.lst [])) w5 (.lst []) (.lst []) (.bl false) _ _ _ S6 (fun _ e => e) ?_ ?_ rfl fun z H7 w7 S7 T7 _ v7 => ⟨v7, w7, S7, T6.trans T7⟩
          · exact ⟨N, [], rfl, by rw [upd_ne (fun z => by rw [← z, l5.at_] at hp; cases hp)]; exact l5.at_, rfl⟩
          · exact ⟨p, [], rfl, upd_same, rfl⟩
        · subst ez
          cases r7
          exact wpAny_truthy_bool ⟨rfl, H7, w7, I7, S7, T7⟩
      · obtain ⟨rfl, H5, w5, I5, S5, T5⟩ := hq
        have G5 : GdS X.K T o kr W rE (σ.set ib (some (.ref A))) H5 w5 (sS (sE gb fun q => if q then fbody else sNx) frest rE) D := G.adv (T3.trans T5)
        have G6 := G5.seq
        refine thn (pb.run _ _ s5 _ H5 _ I5 (gbR rE _ H5 w5 (fun q H6 => ∃ r6 w6, SR X.K T o r6 (σ.set ib (some (.ref A))) H6 w6 ∧ GdS X.K T o kr W r6 (σ.set ib (some (.ref A))) H6 w6 ((if q then fbody else sNx) r6) { D with nx := fun σ' H' => ∃ r' w', SR X.K T o r' σ' H' w' ∧ GdS X.K T o kr W r' σ' H' w' (frest r') D }) S5 ?_)) fun q s6 ⟨H6, I6, r6, w6, S6, G7⟩ => ?_
        · have G8 : GdS X.K T o kr W rE (σ.set ib (some (.ref A))) H5 w5 ((sE gb fun q => if q then fbody else sNx) rE) { D with nx := fun σ' H' => ∃ r' w', SR X.K T o r' σ' H' w' ∧ GdS X.K T o kr W r' σ' H' w' (frest r') D } := by
            revert G6
            cases (sE gb fun q => if q then fbody else sNx) rE with
            | nx r1 =>
              intro G6 σ' H' w' a1 a2
              obtain ⟨r2, w2, b1, b2, b3⟩ := G6 σ' H' w' a1 a2
              exact ⟨r2, w2, b1, b3⟩
            | stk => exact fun z => z
            | bk r1 => exact fun z => z
            | ct r1 => exact fun z => z
            | rt d r1 => exact fun z => z
            | ex c r1 => exact fun z => z
          exact GdS.fst G8 fun q r1 q' H1 w1 _ s1 t1 v1 g1 => by
            have v1 : q' = q := v1
            subst v1
            exact ⟨r1, w1, s1, g1⟩
        · have I6' : L2.Inv X pins (σ.set ib (some (.ref A))) H6 s6 := I6.unpinned
          cases q with
          | true => exact pbo.run pins s6 _ H6 _ I6' (gbo r6 _ H6 w6 _ S6 G7)
          | false => exact wpAny_execs_nil ⟨_, H6, I6', G7.end_nx S6⟩
    · cases f with
      | next =>
        obtain ⟨σ', H', I', r', w', S', G'⟩ := q
        exact pre.run pins s4 σ' H' D I' (gre r' σ' H' w' D S' G')
      | ret v => exact q
      | brk => exact q
      | cont => exact q⟩
end
end Mir

set_option Elab.async false
set_option linter.all false
set_option maxRecDepth 100000
set_option maxHeartbeats 1000000
namespace Mir
open PySem L2
/-- what a loop over owned things has still to give -/
structure Rem (K : PySem.W.Frag) (T : Tb) (H0 : Hp) (w : Wd) (H : Hp) (A : Addr) (vs : List V) (ds : List D) (us : List V) (fp : List Addr) : Prop where
  at_ : H A = some (.lst vs)
  g : w.G A = none
  f : ∀ i, A ∉ w.fp i
  n : A ∉ fp
  m : MRepL K T w.G H ds us fp
  nd : fp.Nodup
  z : ∀ b ∈ fp, H0 b = none ∧ w.G b = none ∧ (∀ i, b ∉ w.fp i) ∧ ∀ ps, H b ≠ some (.tbl ps)
section
variable {K : PySem.W.Frag} {T : Tb} {o : Modes} {r r1 : Rho} {σ σ1 : L2.St} {H0 H H1 : Hp} {w w1 : Wd} {A : Addr} {vs us : List V} {ds : List D} {fp : List Addr}
theorem Rem.step (l : Rem K T H0 w H A vs ds us fp) (t : Stp o r σ H w r1 σ1 H1 w1) : Rem K T H0 w1 H1 A vs ds us fp := by
  obtain ⟨a1, a2, a3⟩ := t.limbo (by rw [l.at_]; simp) l.g l.f (fun ps => by rw [l.at_]; simp)
  have lv := MRepL.live _ _ _ l.m
  have q : ∀ b ∈ fp, H1 b = H b ∧ w1.G b = none ∧ ∀ i, b ∉ w1.fp i := fun b hb => t.limbo (lv b hb) (l.z b hb).2.1 (l.z b hb).2.2.1 (l.z b hb).2.2.2
  exact ⟨a1.trans l.at_, a2, a3, l.n, MRepL.keep t.grow _ _ _ l.m fun b hb => (q b hb).1, l.nd, fun b hb => ⟨(l.z b hb).1, (q b hb).2.1, (q b hb).2.2, fun ps => by rw [(q b hb).1]; exact (l.z b hb).2.2.2 ps⟩⟩
end
theorem GdS.loopA {K : PySem.W.Frag} {T : Tb} {o : Modes} {kr : Kd} {W : WX} {r rb : Rho} {σ σb : L2.St} {H Hb : Hp} {w wb : Wd} {D : Ends} {x : Fl} {kk : Rho → Fl} {N : L2.St → Hp → Prop} (t : Stp o r σ H w rb σb Hb wb) (h : GdS K T o kr W r σ H w (lp x kk) D)
    (hN : ∀ r2 σ' H' w', SR K T o r2 σ' H' w' → Stp o rb σb Hb wb r2 σ' H' w' → GdS K T o kr W r σ H w (kk r2) D → N σ' H') : GdS K T o kr W rb σb Hb wb x { D with nx := N, ct := N, bk := D.nx } := by
  cases x with
  | stk => exact h
  | nx r2 => exact fun σ' H' w' s1 t1 => hN r2 σ' H' w' s1 t1 h
  | ct r2 => exact fun σ' H' w' s1 t1 => hN r2 σ' H' w' s1 t1 h
  | bk r2 => exact fun σ' H' w' s1 t1 => h σ' H' w' s1 (t.trans t1)
  | rt d r2 => exact fun v σ' H' w' s1 t1 v1 => h v σ' H' w' s1 (t.trans t1) (v1.back t)
  | ex c r2 => exact fun dd σ' H' w' s1 t1 => h dd σ' H' w' s1 (t.trans t1)
def sForF (i : Nat) (f : M D) (body : Rho → Fl) : Rho → Fl := sE f fun d => match d with
  | .lst ds => forL (bNm i) body ds
  | _ => fun _ => .stk
section
variable {X : Cx} {T : Tb} {o : Modes} {kr : Kd} {q : Bool} {e iter : Expr} {body : List Stmt} {pos p : Pos} {f : M D} {fs : Rho → Fl}
theorem ds_forF {i : Nat} {x : Str} (hp : PassesOwn (model X.prog X.w) X.A X.env X.xe) (he : DE X T o q .F iter f) (hb : DSs X T o kr body fs) (hN : X.N.Nodup) (hm : mode o i = 1 := by rfl) (hi : X.N[i]? = some x := by rfl) (hx : Loc X.env.scope x := by first | exact .inl rfl | exact .inr rfl) (hf : X.fn x = true ∨ X.env.scope.names.lookup x = some .local := by first | exact .inl rfl | exact .inr rfl)
    (hc : X.calm = true := by rfl) (hs : ∀ y, foldedSetIterable iter X.env y = pure y := by intro _; rfl) : DS X T o kr (.For (.Name x p) iter body [] pos) (sForF i f fs) := ⟨fun W tk => by
  obtain ⟨te, pe, ge⟩ := he.run W tk
  obtain ⟨tb, pb, gb⟩ := hb.run W tk
  refine ⟨_, ps_for hp hc (pi_list pe) (pg_name hN hi hx hf) pb hs, fun r σ H w D s h => ge r σ H w _ s (GdS.fst0 h fun d r1 v H1 w1 z1 s1 t1 v1 h1 => ?_)⟩
  cases d with
  | lst ds =>
    have h1 : GdS X.K T o kr W r σ H w (forL (bNm i) fs ds r1) D := h1
    obtain ⟨fp0, m0, nd0, q0⟩ := v1
    obtain ⟨A, vs, fps, rfl, eA, ml, rfl⟩ := m0
    have rem0 : Rem X.K T H w1 H1 A vs ds vs fps := by
      obtain ⟨n1, n2⟩ := List.nodup_cons.mp nd0
      obtain ⟨c1, c2, c3, c4⟩ := q0 A (by simp)
      exact ⟨eA, c2, c3, n1, ml, n2, fun b hb => q0 b (by simp [hb])⟩
    refine ⟨A, rfl, ⟨vs, .inl (.inl eA)⟩, ?_⟩
    let INV : Nat → L2.St → Hp → Prop := fun j σ' H' => ∃ r' w' fp, SR X.K T o r' σ' H' w' ∧ Stp o r σ H w r' σ' H' w' ∧ GdS X.K T o kr W r σ H w (forL (bNm i) fs (ds.drop j) r') D ∧ Rem X.K T H w' H' A vs (ds.drop j) (vs.drop j) fp
    have hlen := MRepL.length ml
    refine ⟨fun j m σ' H' => m = ds.length - j ∧ j ≤ ds.length ∧ INV j σ' H', ⟨ds.length, by simp, Nat.zero_le _, r1, w1, fps, s1, t1, h1, rem0⟩, ?_⟩
    rintro j m σ2 H2 ⟨rfl, hj, r2, w2, fp, s2, t2, h2, rm⟩
    have sq : SqL X.K H2 A vs := .inl (.inl rm.at_)
    by_cases hlt : j < ds.length
    · have hlv : j < vs.length := by omega
      have ed : ds.drop j = ds[j] :: ds.drop (j + 1) := List.drop_eq_getElem_cons hlt
      have ev : vs.drop j = vs[j] :: vs.drop (j + 1) := List.drop_eq_getElem_cons hlv
      have em : MRepL X.K T w2.G H2 (ds[j] :: ds.drop (j + 1)) (vs[j] :: vs.drop (j + 1)) fp := by rw [← ed, ← ev]; exact rm.m
      obtain ⟨v0, vr, f1, f2, e1, md, mr, e2⟩ := em
      cases e1
      rw [ed] at h2
      refine .inr ⟨⟨vs, vs[j], sq, by simp [hlv]⟩, INV (j + 1), fun σ' H' h => ⟨ds.length - (j + 1), by omega, rfl, hlt, h⟩, fun xv H3 y => ?_⟩
      obtain ⟨rfl, y2⟩ := y
      have ex : xv = vs[j] := by
        have z := y2 vs sq
        rw [List.getElem?_eq_getElem hlv] at z
        exact (Option.some.inj z).symm
      subst ex
      subst e2
      have nd := rm.nd
      rw [List.nodup_append] at nd
      have zz : ∀ b ∈ f1, H b = none ∧ w2.G b = none ∧ (∀ i, b ∉ w2.fp i) ∧ ∀ ps, H3 b ≠ some (.tbl ps) := fun b hb => rm.z b (by simp [hb])
      have s3 := s2.set1 (i := i) hm md nd.1 fun b hb => ⟨(zz b hb).2.1, fun l _ => (zz b hb).2.2.1 l, (zz b hb).2.2.2⟩
      have t3 := t2.set1 (i := i) (d := ds[j]) (v := vs[j]) (fp := f1) hm fun b hb => .inl (zz b hb).1
      have h3 : GdS X.K T o kr W r σ H w (lp (fs (r2.set i (some ds[j]))) (forL (bNm i) fs (ds.drop (j + 1)))) D := h2
      have nA1 : A ∉ f1 := fun hb => rm.n (by simp [hb])
      have rm3 : Rem X.K T H (w2.own i f1) H3 A vs (ds.drop (j + 1)) (vs.drop (j + 1)) f2 := by
        refine ⟨rm.at_, rm.g, fun l hl => ?_, fun hb => rm.n (by simp [hb]), mr, nd.2.1, fun b hb => ⟨(rm.z b (by simp [hb])).1, (rm.z b (by simp [hb])).2.1, fun l hl => ?_, (rm.z b (by simp [hb])).2.2.2⟩⟩
        · have hl' : A ∈ if l = i then f1 else w2.fp l := hl
          split at hl'
          · exact nA1 hl'
          · exact rm.f l hl'
        · have hl' : b ∈ if l = i then f1 else w2.fp l := hl
          split at hl'
          · exact nd.2.2 b hl' b hb rfl
          · exact (rm.z b (by simp [hb])).2.2.1 l hl'
      refine gb _ _ H3 _ _ s3 (GdS.loopA t3 h3 fun r5 σ5 H5 w5 s5 t5 h5 => ?_)
      exact ⟨r5, w5, f2, s5, t3.trans t5, h5, rm3.step t5⟩
    · have e : j = ds.length := by omega
      have ed : ds.drop j = [] := by rw [e]; simp
      rw [ed] at h2
      have h2 : GdS X.K T o kr W r σ H w (.nx r2) D := h2
      exact .inl ⟨⟨vs, sq, by omega⟩, h2 σ2 H2 w2 s2 t2⟩
  | _ => exact h1.elim⟩
end
end Mir

set_option Elab.async false
set_option linter.all false
set_option maxRecDepth 100000
set_option maxHeartbeats 1000000
namespace Mir
open PySem L2
/-! ### generator expressions -/
/-- a generator that gives zs -/
def ReadyV (X : Cx) (pins : List (Addr × Obj)) (σ : L2.St) (H1 : Hp) (tb : List (Addr × Str)) (zs : List V) (g : Addr) (s5 : Shared) : Prop :=
  ∃ (fp wr : List Addr) (G : Array GenState → Array GenState → Prop) (F : Nat → Value → Prop) (St : Nat → Shared → Prop), WalksS X.prog X.w X.A.in4 g fp wr G zs.length F St ∧ St 0 s5 ∧ (∀ b ∈ fp, b < s5.heap.objs.size) ∧ g ∈ fp ∧ (∀ i s9, St i s9 → s9.TypeIs (.ref g) "generator") ∧
    (∀ j v, F j v → ∃ z, zs[j]? = some z ∧ RelV z v) ∧ ∀ s', Moved wr G s5 s' → ∃ H2, ExtA H1 H2 ∧ LamX.Tabs tb H2 ∧ L2.Inv X pins σ H2 s'
/-- an element at one item -/
def EltI (X : Cx) (scope : Scope) (x : Str) (elt : Expr) (Pv : Nat → Value → Prop) (zs : List V) : Prop :=
  ∀ (cenv : Env) (A' : Around) (E' : Value → Shared → Prop) (i : Nat) (u : Value) (s₂ : Shared) (m₂ : Str → Option Value), cenv.scope = scope → cenv.globals = X.env.globals → cenv.builtins = builtinsNs → (∀ b o, X.base.get? b = some o → s₂.heap.get? b = some o) → Pv i u → s₂.heap.Ns cenv.locals m₂ → m₂ x = some u →
    wpAny (model X.prog X.w) A' (eval elt cenv) (fun y s₃ => (∃ z, zs[i]? = some z ∧ RelV z y) ∧ Keeps s₂ s₃) E' s₂
section
variable {X : Cx} {pins : List (Addr × Obj)} {σ : L2.St} {H1 : Hp} {s1 : Shared} {tb : List (Addr × Str)} {c P : Addr} {x : Str} {elt : Expr} {scope : Scope} {gpos : Pos} {k : Nat}
theorem tab_grown {ps : Array Value} {more : List Value} {c' : Addr} {q : Str} (hP : H1 P = some (.tbl ps)) (hT : LamX.Tabs tb H1) (hu : ∀ p ∈ tb, p.1 = P → p.2 = q) (nC : H1 c' = none) (ht : TriplesOk (ps.toList ++ [rawInt gpos.line, rawInt gpos.col, .ref c'])) (hTri : TriplesOk ps.toList)
    (ha : ∀ (pos : Pos) (cv : Value), codeAmong pos ps.toList = some cv → ∃ c, cv = .ref c ∧ H1 c = some (LamX.CodeO c q)) :
    ExtA H1 (upd (upd H1 P (.tbl (ps ++ #[rawInt gpos.line, rawInt gpos.col, .ref c']))) c' (LamX.CodeO c' q)) ∧ LamX.Tabs tb (upd (upd H1 P (.tbl (ps ++ #[rawInt gpos.line, rawInt gpos.col, .ref c']))) c' (LamX.CodeO c' q)) := by
  have hE : ExtA H1 (upd (upd H1 P (.tbl (ps ++ #[rawInt gpos.line, rawInt gpos.col, .ref c']))) c' (LamX.CodeO c' q)) := by
    refine ⟨fun b u e n => ?_, fun b n => upd_some (upd_some n)⟩
    rw [upd_ne (ne_of_none e nC), upd_ne fun z => ?_]
    · exact e
    · rw [z, hP] at e
      exact n ps (Option.some.inj e).symm
  refine ⟨hE, fun p hp => ?_⟩
  by_cases hb : p.1 = P
  · rw [hu p hp hb, hb]
    have eL : (ps ++ #[rawInt gpos.line, rawInt gpos.col, .ref c']).toList = ps.toList ++ [rawInt gpos.line, rawInt gpos.col, .ref c'] := by simp
    refine ⟨_, by rw [upd_ne (ne_of_none hP nC), upd_same], by rw [eL]; exact ht, fun p' cv hcv => ?_⟩
    rw [eL] at hcv
    rcases LamX.among_app _ hTri hcv with z | z
    · obtain ⟨c0, e1, e2⟩ := ha p' cv z
      exact ⟨c0, e1, hE.keep _ _ e2 LamX.codeO_ne⟩
    · exact ⟨c', z, upd_same⟩
  · obtain ⟨ps', a1, a2, a3⟩ := hT p hp
    refine ⟨ps', by rw [upd_ne (ne_of_none a1 nC), upd_ne hb]; exact a1, a2, fun p' cv hcv => ?_⟩
    obtain ⟨c0, e1, e2⟩ := a3 p' cv hcv
    exact ⟨c0, e1, hE.keep _ _ e2 LamX.codeO_ne⟩
theorem gen_core {n : Nat} {Pv : Nat → Value → Prop} {St : Nat → Heap → Prop} {o : Obj} {extra : List Addr} {zs : List V} {Q' : Value → Shared → Prop} {E : Value → Shared → Prop}
    (hr : Room k X.A) (TB : LamX.TabB X.base X.mg c P) (hcode : X.env.code = .ref c) (hmT : (P, X.env.qual ++ "<genexpr>") ∈ tb) (hu : ∀ p ∈ tb, p.1 = P → p.2 = X.env.qual ++ "<genexpr>") (I1 : L2.Inv X pins σ H1 s1) (hT : LamX.Tabs tb H1)
    (W : ∀ A' : Around, A'.handled = none → Walks X.prog X.w A' s1.heap.objs.size (s1.heap.objs.size :: extra) [s1.heap.objs.size] n Pv St) (hst : St 0 (s1.heap.push o)) (hof : o.isFreed = false) (hex : ∀ b ∈ extra, b < s1.heap.objs.size ∧ b ≠ P) (hn : zs.length = n) (hel : EltI X scope x elt Pv zs)
    (hQ : ∀ g s5, ReadyV X pins σ H1 tb zs g s5 → Q' (.ref g) s5) :
    (s1.heap.push o).NoLimit ∧ wpAny (model X.prog X.w) X.A (genexprCode X.env gpos (X.env.qual ++ "<genexpr>") scope) (fun code s₃ => wpAny (model X.prog X.w) X.A (builtinsFor X.env.globals X.env.builtins) (fun bi s₄ =>
      ∃ Ia fp wr n₀ Pf St₀ pz F, Value.ref s1.heap.objs.size = .ref Ia ∧ (∀ A' : Around, A'.handled = none → Walks X.prog X.w A' Ia fp wr n₀ Pf St₀) ∧ St₀ 0 s₄.heap ∧ (∀ b ∈ fp, b < s₄.heap.objs.size) ∧ s₄.heap.NoLimit ∧ cStatics ∉ wr ∧
        (∀ href : Heap, (∀ b o, s₄.heap.get? b = some o → href.get? b = some o) →
          QuietGen X.prog X.w (genEnv scope (cloFrom X.env.cells scope.names []) s₄.heap.objs.size code bi X.env) x [] elt (List.range s₄.heap.objs.size) wr Pf pz F href) ∧
        (∀ a h₅ tk gs, gs.bare = true → s₄.heap.objs.size < a → h₅.objs.size = a + 1 → (∀ b o, s₄.heap.get? b = some o → h₅.get? b = some o) →
          WalksS X.prog X.w X.A.in4 a (a :: s₄.heap.objs.size :: List.range s₄.heap.objs.size) (s₄.heap.objs.size :: wr) (GenOnlyQ s₄.gens.size) (passing pz n₀ 0).length
            (fun j y => ∃ i, (passing pz n₀ 0)[j]? = some i ∧ F i y) (GenAt X.prog X.w X.A.in4 a s₄.gens.size s₄.heap.objs.size (List.range s₄.heap.objs.size) wr pz n₀ F) →
          GenAt X.prog X.w X.A.in4 a s₄.gens.size s₄.heap.objs.size (List.range s₄.heap.objs.size) wr pz n₀ F 0 { s₄ with gens := s₄.gens.push gs, toks := tk, heap := h₅ } →
          Q' (.ref a) { s₄ with gens := s₄.gens.push gs, toks := tk, heap := h₅ })) E s₃) E { s1 with heap := s1.heap.push o } := by
  obtain ⟨ps, hP, ht, ha⟩ := hT _ hmT
  have at1 : s1.heap.get? P = some { cls := .none, data := .fields ps } := I1.hok P _ hP
  have ltP : P < s1.heap.objs.size := Heap.lt_size at1
  have at2 : (s1.heap.push o).get? P = some { cls := .none, data := .fields ps } := Heap.get?_push_of_some _ at1
  have cd : PySem.W.CodeHd (s1.heap.push o) c P := TB.code.keeps fun b u e => Heap.get?_push_of_some _ (I1.bk b u e)
  have lim2 : (s1.heap.push o).NoLimit := I1.nolimit.push o
  have sz2 : (s1.heap.push o).objs.size = s1.heap.objs.size + 1 := Heap.size_push ..
  have hcl : cStatics < s1.heap.objs.size := let ⟨_, hns, _⟩ := I1.nolimit; hns.lt
  have hcP : cStatics ≠ P := fun e => by
    obtain ⟨_, ⟨o', es, ep, ho, hd, _⟩, _⟩ := I1.nolimit
    rw [e, at1] at ho
    cases ho
    cases hd
  have fin : ∀ (code : Value) (h3 : Heap) (tk : Nat), Heap.ExtBut P (s1.heap.push o) h3 → (s1.heap.push o).objs.size ≤ h3.objs.size →
      (∀ s' : Shared, (∀ b u, b < h3.objs.size → b ≠ s1.heap.objs.size → h3.get? b = some u → s'.heap.get? b = some u) → s'.os = s1.os → PyProof.Rows.AllBare s'.gens → ∃ H2, ExtA H1 H2 ∧ LamX.Tabs tb H2 ∧ L2.Inv X pins σ H2 s') →
      wpAny (model X.prog X.w) X.A (builtinsFor X.env.globals X.env.builtins) (fun bi s₄ =>
        ∃ Ia fp wr n₀ Pf St₀ pz F, Value.ref s1.heap.objs.size = .ref Ia ∧ (∀ A' : Around, A'.handled = none → Walks X.prog X.w A' Ia fp wr n₀ Pf St₀) ∧ St₀ 0 s₄.heap ∧ (∀ b ∈ fp, b < s₄.heap.objs.size) ∧ s₄.heap.NoLimit ∧ cStatics ∉ wr ∧
          (∀ href : Heap, (∀ b o, s₄.heap.get? b = some o → href.get? b = some o) →
            QuietGen X.prog X.w (genEnv scope (cloFrom X.env.cells scope.names []) s₄.heap.objs.size code bi X.env) x [] elt (List.range s₄.heap.objs.size) wr Pf pz F href) ∧
          (∀ a h₅ tk gs, gs.bare = true → s₄.heap.objs.size < a → h₅.objs.size = a + 1 → (∀ b o, s₄.heap.get? b = some o → h₅.get? b = some o) →
            WalksS X.prog X.w X.A.in4 a (a :: s₄.heap.objs.size :: List.range s₄.heap.objs.size) (s₄.heap.objs.size :: wr) (GenOnlyQ s₄.gens.size) (passing pz n₀ 0).length
              (fun j y => ∃ i, (passing pz n₀ 0)[j]? = some i ∧ F i y) (GenAt X.prog X.w X.A.in4 a s₄.gens.size s₄.heap.objs.size (List.range s₄.heap.objs.size) wr pz n₀ F) →
            GenAt X.prog X.w X.A.in4 a s₄.gens.size s₄.heap.objs.size (List.range s₄.heap.objs.size) wr pz n₀ F 0 { s₄ with gens := s₄.gens.push gs, toks := tk, heap := h₅ } →
            Q' (.ref a) { s₄ with gens := s₄.gens.push gs, toks := tk, heap := h₅ })) E { s1 with heap := h3, toks := tk } := by
    intro code h3 tk hx hsz hinv
    obtain ⟨bm, ob, e1, e2, e3, e4, e5, e6, e7, e8⟩ := TB.bm
    have up : ∀ b u, b ≠ P → s1.heap.get? b = some u → h3.get? b = some u := fun b u hb e => hx b u hb (Heap.get?_push_of_some _ e)
    have big : s1.heap.objs.size < h3.objs.size := by omega
    refine wpAny_builtinsFor (m := X.mg) (by rw [I1.ok.glob]; exact ((I1.mod.glob.keeps I1.bk).push o).extBut hx TB.gP) e1 e2 (up _ _ e4 (I1.bk _ _ e5)) e6 e7 e8 ?_
    have W0 := W X.A hr.hd
    refine ⟨s1.heap.objs.size, s1.heap.objs.size :: extra, [s1.heap.objs.size], n, Pv, St, (fun _ => true), (fun i y => ∃ z, zs[i]? = some z ∧ RelV z y), rfl, W, W0.frame _ _ _ hst fun b hb u e => hx b u (fun z => ?_) e, fun b hb => ?_, lim2.extBut hx hcP, fun z => ?_, fun href hh => ⟨?_, ?_⟩, ?_⟩
    · rcases List.mem_cons.mp hb with y | y
      · rw [y] at z; exact absurd ltP (by rw [← z]; exact Nat.lt_irrefl _)
      · exact (hex b y).2 z
    · rcases List.mem_cons.mp hb with y | y
      · rw [y]; exact big
      · exact Nat.lt_trans (hex b y).1 big
    · rcases List.mem_cons.mp z with y | y
      · exact Nat.ne_of_lt hcl y
      · cases y
    · intro A' E' i v s₂ m₂ hA hPv hns hm hk
      simp only [List.forIn_nil]
      exact wpAny_pure ⟨rfl, GxR.keeps_refl _⟩
    · intro A' E' i v s₂ m₂ hA hPv hp hns hm hk
      refine hel _ A' E' i v s₂ m₂ rfl rfl rfl (fun b u e => ?_) hPv hns hm
      have e9 := I1.bk b u e
      have lb := Heap.lt_size e9
      by_cases hbP : b = P
      · obtain ⟨oc, us, file, tf, flags, tg, inF, text, tt, r0, r1, r2, r3, r4, r5, r6, r7, r8, hne⟩ := TB.code
        have z := (I1.bs P u (by rw [← hbP]; exact e)).2
        rw [hP] at z
        cases z
      · refine hk b (List.mem_range.mpr (Nat.lt_trans lb big)) (fun y => ?_) u (hh b u (up b u hbP e9))
        rcases List.mem_cons.mp y with y | y
        · rw [y] at lb; exact Nat.lt_irrefl _ lb
        · cases y
    · intro g h5 tk5 gs hgb hag hsz5 hk5 W5 hgat
      simp only [GxR.passing_true, List.length_range] at W5
      rw [← hn] at W5 hgat
      refine hQ g _ ⟨_, _, _, _, _, W5, hgat, fun b hb => ?_, List.mem_cons_self, fun i s9 h9 => ?_, fun j v hv => ?_, fun s' hm => hinv s' (fun b u lb nb e => hm.heap b u (fun y => ?_) (hk5 b u e)) hm.os (PyProof.Rows.AllBare.movedS (I1.bare.push hgb) hm)⟩
      · show b < h5.objs.size
        have e5 : h5.objs.size = g + 1 := hsz5
        have e8 : h3.objs.size < g := hag
        rw [e5]
        rcases List.mem_cons.mp hb with z | z
        · rw [z]; exact Nat.lt_succ_self g
        · rcases List.mem_cons.mp z with z | z
          · rw [z]; exact Nat.lt_succ_of_lt e8
          · have z2 : b < h3.objs.size := List.mem_range.mp z
            exact Nat.lt_succ_of_lt (Nat.lt_trans z2 e8)
      · obtain ⟨hg9, _⟩ := h9
        exact hg9.typeIs
      · obtain ⟨i, hij, z, hz, r⟩ := hv
        obtain ⟨hj, ej⟩ := List.getElem?_eq_some_iff.mp hij
        rw [List.getElem_range] at ej
        subst ej
        exact ⟨z, hz, r⟩
      · rcases List.mem_cons.mp y with y | y
        · rw [y] at lb; exact Nat.lt_irrefl _ lb
        · rcases List.mem_cons.mp y with y | y
          · exact nb y
          · cases y
  refine ⟨lim2, ?_⟩
  have old : ∀ b u, s1.heap.get? b = some u → b ≠ s1.heap.objs.size := fun b u e => Nat.ne_of_lt (Heap.lt_size e)
  rcases hf : codeAmong gpos ps.toList with _ | cv
  · refine wpAny_genexprCodeX hcode (cd.code at2 ht) (cd.tab at2) hf fun c' h' tk hx hge hlt hco' hrec htab' _ => ?_
    obtain ⟨_, _, _, _, _, _, _, _, _, _, _, _, _, _, _, _, _, _, _, htr, _⟩ := hco'
    obtain ⟨_, oc, vs, t, ec, hoc, hd, hv⟩ := hrec
    cases ec
    have nC : H1 c' = none := I1.hok.fresh (Nat.le_trans (Nat.le_of_lt (by rw [sz2]; exact Nat.lt_succ_self _)) hge)
    refine fin _ h' tk hx (Nat.le_trans hge (Nat.le_of_lt hlt)) fun s' hk hos hb => ?_
    have c1 : s1.heap.objs.size < c' := Nat.lt_of_lt_of_le (by rw [sz2]; exact Nat.lt_succ_self _) hge
    have lt' : s1.heap.objs.size < h'.objs.size := Nat.lt_trans c1 hlt
    have J := LamX.inv_table (t' := s'.toks) (more := #[rawInt gpos.line, rawInt gpos.col, .ref c']) (h' := s'.heap) (c := c') (q := X.env.qual ++ "<genexpr>") I1 hP
      (fun b u hb e => hk b u (Nat.lt_trans (Heap.lt_size e) lt') (old b u e) (hx b u hb (Heap.get?_push_of_some _ e))) (hk P _ (Nat.lt_trans ltP lt') (Nat.ne_of_lt ltP) htab'.2) (Nat.le_of_lt c1) ⟨oc, vs, t, hk c' _ hlt (Nat.ne_of_gt c1) hoc, hd, hv⟩
    have htr' : TriplesOk (ps.toList ++ [rawInt gpos.line, rawInt gpos.col, .ref c']) := by simpa using htr
    obtain ⟨g1, g2⟩ := tab_grown (gpos := gpos) (more := []) hP hT hu nC htr' ht ha
    refine ⟨_, g1, g2, ?_⟩
    have e1 : ({ s1 with heap := s'.heap, toks := s'.toks } : Shared) = { s' with gens := s1.gens, drawn := s1.drawn } := by
      obtain ⟨a1, a2, a3, a4, a5⟩ := s'
      cases hos
      rfl
    rw [e1] at J
    exact ⟨J.ok, J.os, hb, J.base, J.loc, J.cell, J.free, J.freeC, J.pin, J.hok, J.len⟩
  · refine wpAny_genexprCode_hit hcode (cd.code at2 ht) hf ?_
    refine fin cv (s1.heap.push o) s1.toks (Heap.ExtBut.refl _ _) (Nat.le_refl _) fun s' hk hos hb => ?_
    have J : L2.Inv X pins σ H1 { s1 with heap := s'.heap, toks := s'.toks } := I1.kept fun b u e => hk b u (by rw [sz2]; exact Nat.lt_succ_of_lt (Heap.lt_size e)) (old b u e) (Heap.get?_push_of_some _ e)
    refine ⟨H1, ExtA.refl _, hT, ?_⟩
    have e1 : ({ s1 with heap := s'.heap, toks := s'.toks } : Shared) = { s' with gens := s1.gens, drawn := s1.drawn } := by
      obtain ⟨a1, a2, a3, a4, a5⟩ := s'
      cases hos
      rfl
    rw [e1] at J
    exact ⟨J.ok, J.os, hb, J.base, J.loc, J.cell, J.free, J.freeC, J.pin, J.hok, J.len⟩
end
end Mir

set_option Elab.async false
set_option linter.all false
set_option maxRecDepth 100000
set_option maxHeartbeats 1000000
namespace Mir
open PySem L2
section
variable {X : Cx} {T : Tb} {o : Modes} {q : Bool} {x : Str} {scope : Scope} {k : Nat} {c P : Addr} {iter : Expr} {f : M D}
theorem elt_len {Pv : Nat → Value → Prop} {ws : List Str} {p1 p2 p3 : Pos} (hM : L2.Mod X.K X.mg X.base) (hG : X.env.globals = mainGlobals) (hk : scope.kind = .function) (hl : scope.names.lookup x = some .local) (hgl : scope.names.lookup ("len" : Str) = some .globalImplicit) (hm : X.mg "len" = none)
    (hd : (x == ("__debug__" : Str)) = false) (hP : ∀ i u, Pv i u → ∃ a t, ws[i]? = some a ∧ u = .str a t) (hz : ∀ a ∈ ws, a.length ≤ sizeLine) : EltI X scope x (.Call (.Name "len" p1) [.Name x p2] [] p3) Pv (ws.map fun a => V.int (a.length : Nat)) := by
  intro cenv A' E' i u s₂ m₂ hs hg hb hbase hPv hn hmx
  obtain ⟨a, t, ha, rfl⟩ := hP i u hPv
  obtain ⟨mb, h1, h2⟩ := hM.blt
  have kf : cenv.scope.kind = .function := by rw [hs]; exact hk
  refine wpAny_Call_Name_kw (Calls.Name_function_global kf (by show cenv.scope.names.lookup _ = _; rw [hs]; exact hgl) (Calls.loadGlobal_builtin (by rw [hg, hG]; exact hM.glob.keeps hbase) hm (by rw [hb]; exact h1.keeps hbase) ((h2 "len" (by decide)).trans boot_len) ?_) (by decide))
  refine callWith_builtin1 (wpAny_Name (wpAny_loadName_local kf (show cenv.scope.names.lookup x = some .local by rw [hs]; exact hl) hn hmx ?_) hd)
  have hz' := hz a (List.mem_of_getElem? ha)
  have hs2 : sizeLine = 16777216 := sizeLine_eq
  have hl63 := line63
  refine PyProof.Rows.len_str (by omega) ⟨⟨V.int (a.length : Nat), by rw [List.getElem?_map, ha]; rfl, ⟨_, rfl⟩⟩, GxR.keeps_tok _ _⟩
def mlenD : D → Option D
  | .tup ds => match strsD ds with
    | some ls => if ls.all (fun l => lim l.length) then maxD (.lst (ls.map fun l => .int l.length)) else none
    | none => none
  | _ => none
theorem intsD_map : ∀ (ls : List (List Nat)), intsD (ls.map fun l => D.int l.length) = some (ls.map fun l => (l.length : Int))
  | [] => rfl
  | l :: ls => by
    show (intsD (ls.map fun l => D.int l.length)).map _ = _
    rw [intsD_map ls]
    rfl
/-- max(len(x) for x in a tuple of texts) -/
theorem de_maxlen {p p1 p2 p3 px gpos pos : Pos} (hmM : X.mg "max" = none) (hmL : X.mg "len" = none) (TB : LamX.TabB X.base X.mg c P) (hcode : X.env.code = .ref c) (hmT : (P, X.env.qual ++ "<genexpr>") ∈ T.tabs) (hu : ∀ p ∈ T.tabs, p.1 = P → p.2 = X.env.qual ++ "<genexpr>") (hr : Room k X.A) (hi : DE X T o q .S iter f)
    (hco : scope.isCoroutine = false := by rfl) (hk : scope.kind = .function := by rfl) (hdot : scope.names.lookup (".0" : Str) = some NameKind.local := by rfl) (hl : scope.names.lookup x = some .local := by rfl) (hcell : (scope.names.all fun y => decide (y.2 ≠ .cell)) = true := by rfl) (hfree : (scope.names.all fun y => decide (y.2 ≠ .free)) = true := by rfl)
    (hgl : scope.names.lookup ("len" : Str) = some .globalImplicit := by rfl) (hd : (x == ("__debug__" : Str)) = false := by decide) (hg : Gl X "max" := by rfl) (hs : ∀ v, genFold iter X.env v = pure v := by intro _; rfl)
    (he : starEach [.GeneratorExp (.Call (.Name "len" p1) [.Name x p2] [] p3) [⟨.Name x px, iter, [], 0⟩] scope gpos] X.env = (false, eval (.GeneratorExp (.Call (.Name "len" p1) [.Name x p2] [] p3) [⟨.Name x px, iter, [], 0⟩] scope gpos) X.env) :: starEach [] X.env := by rfl) :
    DE X T o false .S (.Call (.Name "max" p) [.GeneratorExp (.Call (.Name "len" p1) [.Name x p2] [] p3) [⟨.Name x px, iter, [], 0⟩] scope gpos] [] pos) (fn1 mlenD f) := ⟨fun W tk => by
  obtain ⟨te, pe, ge⟩ := hi.run W tk
  have hcell' : ∀ y ∈ scope.names, y.2 ≠ .cell := fun y hy => by simpa using List.all_eq_true.mp hcell y hy
  have hfree' : ∀ y ∈ scope.names, y.2 = .free → ∃ c, X.env.cells.lookup y.1 = some c := fun y hy e => absurd e (by simpa using List.all_eq_true.mp hfree y hy)
  refine ⟨fun σ H Q => te σ H fun v H1 => ∃ (a : Addr) (ws : List Str), v = .ref a ∧ SqT X.K H1 a (ws.map V.str) ∧ (∀ l ∈ ws, Str.length l ≤ sizeLine) ∧ 0 < ws.length ∧ LamX.Tabs T.tabs H1 ∧ ∀ H2 (M : Int), ExtA H1 H2 → LamX.Tabs T.tabs H2 → (∃ l ∈ ws, M = (Str.length l : Nat)) → (∀ l ∈ ws, ((Str.length l : Nat) : Int) ≤ M) → Q (.int M) H2,
    ⟨fun pins s σ H Q I h => ?_⟩, fun r σ H w Q s g => ge r σ H w _ s (Gd.fst Val.back g (q1 := q) (q2 := false) (by simp) fun d r1 v H1 w1 z1 s1 t1 q1 v1 g1 => ?_)⟩
  · have boot_max : bootBuiltins "max" = some (.builtin "max") := by decide +kernel
    refine wpAny_Call_Name_kw (ld_blt I hg hmM boot_max ?_)
    rw [he]
    refine callWith_builtin1 ?_
    refine wpAny_GeneratorExp_walksQ hr.hd hco (closure_ok hfree') hcell' hdot hl hk (by have := hr.dp; omega) (thn (pe.run pins s σ H _ I h) fun xv s1 ⟨v, H1, I1, r1, a, ws, ev, hq, hz, hn, hT, hQ⟩ => ?_) hs
    subst ev
    obtain rfl : xv = Value.ref a := r1
    obtain ⟨its, rv, hl2, hz2⟩ := I1.tuple hq
    have hIT : s1.heap.IsTuple a its.toArray := hl2
    refine wpAny_pyIter_tuple hIT ?_
    have hal : a < s1.heap.objs.size := by obtain ⟨_, e, _⟩ := id hIT; exact Heap.lt_size e
    have hlen : its.length = ws.length := by rw [← rv.length, List.length_map]
    have haP : a ≠ P := fun z => by
      obtain ⟨ps, hP, _⟩ := hT _ hmT
      have e1 := I1.hok P _ hP
      obtain ⟨_, e, hc1, _, hd1⟩ := id hIT
      rw [z] at e
      have e1' : s1.heap.get? P = some { cls := .none, data := .fields ps } := e1
      rw [e1'] at e
      cases e
      cases hd1
    have hPv : ∀ (i : Nat) (u : Value), its.toArray[i]? = some u → ∃ a t, ws[i]? = some a ∧ u = .str a t := fun i u hu2 => by
      have hv2 : its[i]? = some u := by simpa using hu2
      have hi2 : i < ws.length := by rw [← hlen]; exact (List.getElem?_eq_some_iff.mp hv2).1
      obtain ⟨u', hu', ru⟩ := rv.get (show (ws.map V.str)[i]? = some (V.str ws[i]) by rw [List.getElem?_map, List.getElem?_eq_getElem hi2]; rfl)
      rw [hv2] at hu'
      cases hu'
      obtain ⟨t, e⟩ := (show ∃ t, u = Value.str ws[i] t from ru)
      exact ⟨ws[i], t, List.getElem?_eq_getElem hi2, e⟩
    refine gen_core (Q' := fun v s₁ => wpAny (model X.prog X.w) X.A (call (.builtin "max") [v]) (EP X pins σ Q) X.xe s₁) (E := X.xe) (o := { cls := .type "tuple_iterator", data := .fields #[.ref a, .int 0 0] }) (tb := T.tabs) (zs := ws.map fun a => V.int (a.length : Nat)) (extra := [a]) (n := its.toArray.size) (St := fun i h => h.IsTupleIter s1.heap.objs.size a i ∧ h.IsTuple a its.toArray) (Pv := fun i v => its.toArray[i]? = some v) hr TB hcode hmT hu I1 hT
      (fun A' hA => Walks.tuple hA _ _ (Nat.ne_of_lt hal) _) ⟨⟨_, Heap.get?_push_size _ rfl, rfl, rfl⟩, hIT.at fun u e => Heap.get?_push_of_some _ e⟩ rfl (fun b hb => ?_) (by rw [List.length_map, List.size_toArray, hlen]) (elt_len I1.ok.mod I1.ok.glob hk hl hgl hmL hd hPv hz) fun g s5 hR => ?_
    · obtain rfl : b = a := by simpa using hb
      exact ⟨hal, haP⟩
    · obtain ⟨fp, wr, G, F, St, W4, hst, hfp, hgf, hTy, hF, hinv⟩ := hR
      have W1 := W4.in4_1
      have hval : ∀ j v, F j v → ∃ t, v = .int (((ws.map fun a => (a.length : Int)).getD j 0)) t := fun j v hv => by
        obtain ⟨z, hz1, r⟩ := hF j v hv
        rw [List.getElem?_map] at hz1
        cases hj : ws[j]? with
        | none => rw [hj] at hz1; cases hz1
        | some b =>
          rw [hj] at hz1
          cases hz1
          obtain ⟨t, rfl⟩ := r
          exact ⟨t, by rw [List.getD_eq_getElem?_getD, List.getElem?_map, hj]; rfl⟩
      have hlz : (ws.map fun a => V.int (a.length : Nat)).length = ws.length := by simp
      refine call_max_walkS (W1.self 0 _ _ _ hst ⟨g, _, _, _, _, _, _, _, rfl, W1, hst, hfp, by rw [hlz]; exact hn, CmpOf.ints_gt _ hval, fun v s' hv hm => ?_⟩)
      obtain ⟨t, rfl⟩ := hval _ v hv
      have hb := argBest_gt (fun j => (ws.map fun a => (a.length : Int)).getD j 0) ((ws.map fun a => V.int (a.length : Nat)).length - 1)
      obtain ⟨H2, e2, t2, J⟩ := hinv s' hm
      refine ⟨.int _, H2, J, ⟨t, rfl⟩, hQ H2 _ e2 t2 ?_ fun l hl3 => ?_⟩
      · have hj := hb.1
        rw [hlz] at hj ⊢
        have hj' : argBest (fun i j => decide ((ws.map fun a => (a.length : Int)).getD i 0 > (ws.map fun a => (a.length : Int)).getD j 0)) (ws.length - 1) < ws.length := by omega
        exact ⟨_, List.getElem_mem hj', by rw [List.getD_eq_getElem?_getD, List.getElem?_map, List.getElem?_eq_getElem hj']; rfl⟩
      · obtain ⟨i, hi3, rfl⟩ := List.getElem_of_mem hl3
        have := hb.2 i (by rw [hlz]; omega)
        simpa [List.getD_eq_getElem?_getD, List.getElem?_eq_getElem hi3] using this
  · obtain ⟨dz, e, g2⟩ := g1.lif
    unfold mlenD at e
    split at e
    · rename_i ds
      split at e
      · rename_i ls els
        split at e
        · rename_i hall
          obtain ⟨a, vs, rfl, m, l⟩ := v1
          have hvs := strsD_rep els l
          subst hvs
          have hne : ls ≠ [] := fun z => by subst z; simp [maxD, intsD] at e
          refine ⟨a, _, rfl, s1.sub.t m, fun l hl => ?_, by rw [List.length_map]; exact List.length_pos_iff.mpr hne, s1.tab, fun H2 M e2 t2 hM1 hM2 => ?_⟩
          · obtain ⟨l', hl', rfl⟩ := List.mem_map.mp hl
            rw [str_len]
            exact lim_sz (List.all_eq_true.mp hall l' hl')
          · obtain ⟨s2, st2⟩ := s1.extA e2 t2
            refine g2 (.int M) H2 w1 s2 st2 (fun z => by cases z) ?_
            obtain ⟨l0, hl0, rfl⟩ := hM1
            obtain ⟨l1, hl1, rfl⟩ := List.mem_map.mp hl0
            cases ls with
            | nil => exact absurd rfl hne
            | cons n0 ns =>
              have e' : D.int (maxI n0.length (ns.map fun l => (l.length : Int))) = dz := by
                have e0 : maxD (.lst ((n0 :: ns).map fun l => .int l.length)) = some (D.int (maxI n0.length (ns.map fun l => (l.length : Int)))) := by
                  show (intsD ((n0 :: ns).map fun l => D.int l.length)).bind _ = _
                  rw [intsD_map (n0 :: ns)]
                  rfl
                rw [e0] at e
                exact Option.some.inj e
              subst e'
              show V.int _ = V.int _
              congr 1
              obtain ⟨p1, p2, p3⟩ := maxI_ge (ns.map fun l => (l.length : Int)) n0.length
              have up : (((⟨l1.toArray⟩ : Str).length : Nat) : Int) ≤ maxI n0.length (ns.map fun l => (l.length : Int)) := by
                rw [str_len]
                rcases List.mem_cons.mp hl1 with rfl | hl1
                · exact p1
                · exact p2 _ (List.mem_map.mpr ⟨l1, hl1, rfl⟩)
              have dn : maxI n0.length (ns.map fun l => (l.length : Int)) ≤ (((⟨l1.toArray⟩ : Str).length : Nat) : Int) := by
                rcases p3 with p3 | p3
                · rw [p3]
                  have := hM2 ⟨n0.toArray⟩ (List.mem_map.mpr ⟨n0, by simp, rfl⟩)
                  rw [str_len] at this
                  exact this
                · obtain ⟨l2, h2, e2'⟩ := List.mem_map.mp p3
                  rw [← e2']
                  have := hM2 ⟨l2.toArray⟩ (List.mem_map.mpr ⟨l2, by simp [h2], rfl⟩)
                  rw [str_len l2] at this
                  exact this
              omega
        · cases e
      · cases e
    · cases e⟩
end
end Mir

set_option Elab.async false
set_option linter.all false
set_option maxRecDepth 100000
set_option maxHeartbeats 1000000
namespace Mir
open PySem L2
/-! ### what the head tells -/
theorem fun_of_D {K : PySem.W.Frag} {x : Str} {st : Stmt} {f : Addr} {fd : FuncData} (F : FunD K x x (defArgs st) (defBody st) (defScope st) [] [] f fd) : ∃ kV, (kV = Value.none ∨ True) ∧ Fun K x x st f fd := by
  obtain ⟨oc, od, dV, kV, doc, pm, an, cdv, ct, osl, rfl, lk, hcd, hD, hK⟩ := F.ex
  rcases hD with ⟨_, rfl⟩ | ⟨e, _⟩
  · exact ⟨kV, .inr trivial, ⟨oc, od, kV, doc, pm, an, cdv, ct, osl, rfl, lk, hcd⟩, F.kp⟩
  · exact absurd rfl e
theorem fnAt_of {K : PySem.W.Frag} {h : Heap} {mg : Str → Option Value} {x : Str} {st : Stmt} {ps : List Str} {fd : FuncData} (X : K.In h) (G : h.Ns mainGlobals mg) (F : FunD K x x (defArgs st) (defBody st) (defScope st) [] [] (He.fAd K (x, none)) fd)
    (hb : ∀ (kV doc pm : Value) (an : Option Addr) (cdv ct : Value) (us : List Value), us.length = ps.length → bindArgs (PySem.W.fnOf x x (defArgs st) (defBody st) (defScope st) .none kV doc pm an cdv ct) ⟨us, []⟩ = pure (ps.zip us)) (g : (He.Fa.glo x).ok K = true) : FnAt K mg x st ps (He.fAd K (x, none)) fd :=
  ⟨(fun_of_D F).choose_spec.2, FunD.bindsN F hb, He.glo_ok X G g⟩
theorem exAt_of {K : PySem.W.Frag} {h : Heap} {mg : Str → Option Value} {x : Str} (X : K.In h) (G : h.Ns mainGlobals mg) (g : (He.Fa.glo x).ok K = true) (e : (He.Fa.exc x).ok K = true) (m : (He.Fa.exm x x true).ok K = true) : ExAt K mg x (He.ga K x) := by
  obtain ⟨a, b, c, d⟩ := He.exc_ok e
  exact ⟨He.glo_ok X G g, a, b, c, d, He.exm_ok m⟩
/-- a def whose code object is known -/
structure FunC (K : PySem.W.Frag) (x qual : Str) (st : Stmt) (f : Addr) (fd : FuncData) (c : Addr) : Prop where
  ex : ∃ (oc : Value) (od : Option Addr) (kV doc pm : Value) (an : Option Addr) (ct : Value) (osl : Array (Option Value)),
    fd = PySem.W.fnOf x qual (defArgs st) (defBody st) (defScope st) .none kV doc pm an (.ref c) ct ∧ K.lookup f = some ⟨oc, od, .func fd, osl⟩ ∧ PySem.W.codeIn K (.ref c) qual = true
theorem funC_of {K : PySem.W.Frag} {x : Str} {st : Stmt} {fd : FuncData} (F : FunD K x x (defArgs st) (defBody st) (defScope st) [] [] (He.fAd K (x, none)) fd) : FunC K x x st (He.fAd K (x, none)) fd (He.cT K (x, none)).1 := by
  obtain ⟨oc, od, dV, kV, doc, pm, an, cdv, ct, osl, rfl, lk, hcd, hD, hK⟩ := F.ex
  rcases hD with ⟨_, rfl⟩ | ⟨e, _⟩
  · obtain ⟨c, rfl⟩ := He.codeIn_ref hcd
    have e : He.codeOf K (x, none) = c := He.codeOf_eq lk rfl
    show FunC K x x st (He.fAd K (x, none)) _ (He.codeOf K (x, none))
    rw [e]
    exact ⟨oc, od, kV, doc, pm, an, ct, osl, rfl, lk, hcd⟩
  · exact absurd rfl e
section
variable {P : Program} {w : World} {K : PySem.W.Frag} {mg : Str → Option Value} {base : Heap} {T : Tb}
theorem fn_core {name qual : Str} {params : Arguments} {bodyS : List Stmt} {scope : Scope} {f : Addr} {N ps : List Str} {k np : Nat} {o : Modes} {kr : Kd} {body : Rho → Fl} {kV doc pm cdv ct oc : Value} {an od : Option Addr} {osl : Array (Option Value)}
    (lk : K.lookup f = some ⟨oc, od, .func (PySem.W.fnOf name qual params bodyS scope .none kV doc pm an cdv ct), osl⟩) (hcd : PySem.W.codeIn K cdv qual = true) (S : FnScope N ps scope) (hp : ps.length = np) (hk : kr = .S ∨ kr = .F)
    (hbody : ∀ (A : Around) (outer : List Env) (s : Shared) (H : Hp) (E : XK), Room k (A.deeper (PyProof.Rows.envOfC qual scope s.heap.objs.size f cdv)) →
      DSs (cxOf (L2.CX P w) P w K mg base N qual scope f cdv A outer s H E) T o kr bodyS body) : FnOk P w K mg base (L2.CX P w) (k + 1) f (PySem.W.fnOf name qual params bodyS scope .none kV doc pm an cdv ct) ps (spD K T N np o kr (runB N.length body)) := by
  refine fn_of lk hcd S (fun vs H Q E h => ?_) fun A outer s H vs Q E hr h => ?_
  · obtain ⟨ds, w, e, _⟩ := h
    rw [e, hp]
  · obtain ⟨ds, w1, e1, e2, e3, s1, g⟩ := h
    obtain ⟨t, p, run⟩ := (hbody A outer s H E hr).run (fun cls d _ H' => E cls d H') (takes_of rfl rfl rfl rfl)
    refine ⟨t, p, run _ _ H w1 _ s1 ?_⟩
    show GdS K T o kr _ (startR N.length ds) (L2.start N vs) H w1 (body (startR N.length ds)) _
    unfold runB at g
    cases eb : body (startR N.length ds) with
    | stk => rw [eb] at g; exact g
    | nx r =>
      rw [eb] at g
      refine fun σ' H' w' a b => g .non σ' H' w' a b ?_
      rcases hk with rfl | rfl
      · exact (rfl : V.non = V.non)
      · exact ⟨[], ⟨rfl, rfl⟩, List.nodup_nil, fun a ha => by simp at ha⟩
    | rt d r => rw [eb] at g; exact g
    | bk r => rw [eb] at g; exact g.elim
    | ct r => rw [eb] at g; exact g.elim
    | ex c r => rw [eb] at g; exact g
/-- a def that makes lambdas or generators keeps its promise -/
theorem fn_DC {x qual : Str} {st : Stmt} {f c : Addr} {fd : FuncData} {N ps : List Str} {k np : Nat} {o : Modes} {kr : Kd} {body : Rho → Fl} (F : FunC K x qual st f fd c) (S : FnScope N ps (defScope st)) (hp : ps.length = np) (hk : kr = .S ∨ kr = .F)
    (hbody : ∀ (A : Around) (outer : List Env) (s : Shared) (H : Hp) (E : XK), Room k (A.deeper (PyProof.Rows.envOfC qual (defScope st) s.heap.objs.size f (.ref c))) →
      DSs (cxOf (L2.CX P w) P w K mg base N qual (defScope st) f (.ref c) A outer s H E) T o kr (defBody st) body) : FnOk P w K mg base (L2.CX P w) (k + 1) f fd ps (spD K T N np o kr (runB N.length body)) := by
  obtain ⟨oc, od, kV, doc, pm, an, ct, osl, rfl, lk, hcd⟩ := F.ex
  exact fn_core lk hcd S hp hk hbody
end
/-! ### the law's call -/
def scrD (ns : List Int) : D := .scr (ns.map .int)
theorem ints_rep {K : PySem.W.Frag} {G : Hp} : ∀ ns : List Int, RepL K G (ns.map .int) (ns.map V.int)
  | [] => rfl
  | n :: ns => ⟨_, _, rfl, rfl, ints_rep ns⟩
/-- the promise at the script, nothing else held but the tables -/
theorem sp_law {K : PySem.W.Frag} {T : Tb} {N : List Str} {o : Modes} {m : List D → Out D} {H : Hp} {A : Addr} {ns : List Int} {r : Rho} (hN : 1 ≤ N.length) (h0 : mode o 0 = 0) (hT : LamX.Tabs T.tabs H) (hS : SqL K H A (ns.map V.int)) (hm : m [scrD ns] = .ok (.bl true) r) :
    spD K T N 1 o .S m [.ref A] H (fun v _ => v = .bl true) fun _ _ _ => False := by
  let G : Hp := fun b => if b = A then (match H b with
    | some (.tbl _) => none
    | u => u) else none
  have gA : ∀ u, H A = some u → (∀ ps, u ≠ .tbl ps) → G A = some u := fun u e n => by
    show (if A = A then (match H A with | some (.tbl _) => none | u => u) else none) = some u
    rw [if_pos rfl, e]
    cases u with
    | tbl ps => exact absurd rfl (n ps)
    | _ => rfl
  have gs : ∀ b u, G b = some u → H b = some u ∧ ∀ ps, u ≠ .tbl ps := fun b u e => by
    have e' : (if b = A then (match H b with | some (.tbl _) => none | u => u) else none) = some u := e
    split at e'
    · split at e'
      · cases e'
      · rename_i hx
        exact ⟨e', fun ps z => hx ps (by rw [e', z])⟩
    · cases e'
  refine ⟨[scrD ns], ⟨G, fun _ => []⟩, rfl, rfl, hN, ⟨fun a u e _ => (gs a u e).1, fun a ps e => (gs a _ e).2 ps rfl, fun i d e => ?_, fun i a ha => absurd ha (by simp), fun i a ha => absurd ha (by simp), fun i j a ha => absurd ha (by simp), fun i => List.nodup_nil, fun i a ps ha => absurd ha (by simp), hT, ?_⟩, ?_⟩
  · have e1 := startR_get e
    have hi : i = 0 := by
      rcases i with _ | i
      · rfl
      · simp at e1
    subst hi
    have ed : scrD ns = d := by simpa using e1
    subst ed
    refine ⟨.ref A, start_at rfl, ?_⟩
    rw [if_pos h0]
    refine ⟨A, ns.map V.int, rfl, ?_, ints_rep ns⟩
    rcases hS with (z | ⟨o', z⟩) | z
    · exact .inl (.inl (gA _ z (fun ps y => by cases y)))
    · exact .inl (.inr ⟨o', gA _ z (fun ps y => by cases y)⟩)
    · exact .inr z
  · unfold L2.start startR
    simp
  · rw [hm]
    exact fun v σ' H' w' _ _ rv => rv
end Mir

set_option Elab.async false
set_option linter.all false
set_option maxRecDepth 100000
set_option maxHeartbeats 1000000
namespace Mir
open PySem L2
section
variable {X : Cx} {T : Tb} {o : Modes} {kr : Kd} {elt tg iter : Expr} {ifs : List Expr} {scope : Scope} {own : List (Str × Nat)} {pos py spos : Pos} {fi : M (List D)} {b : D → Rho → Option Rho} {is : List Nat} {t : M Bool} {e : M D} {i : Nat} {y : Str}
theorem lamT_by {params : Arguments} {body : Expr} {scope : Scope} (h : LamX.lamSB X.env.scope scope = true) (d : defaultsOf params X.env = ([], [])) (b : ∀ (q : Str) (cl : List (Str × Addr)) (pm cv ctv : Value), bindArgs (PySem.W.kla_fn "<lambda>" q params body scope cl pm cv ctv) ⟨[], []⟩ = pure []) : LamT X params body scope := ⟨LamX.lamS_by h, d, b⟩
/-- name = [elt for tg in iter if ..], the name a plain local, on one line -/
theorem ds_setLc {qt qe : Bool} (hN : X.N.Nodup) (hi : DI X T o tg iter fi) (hg : ∀ s H C cl fp, DG (Blk X scope s H C cl fp) T o tg is b) (ht : ∀ s H C cl fp, DTs (Blk X scope s H C cl fp) T o qt ifs t) (he : ∀ s H C cl fp, DE (Blk X scope s H C cl fp) T o qe .S elt e)
    (hy : X.N[i]? = some y := by rfl) (hyl : X.env.scope.names.lookup y = some .local := by rfl) (hmi : mode o i = 0 := by rfl) (hsw : swapsWith (.ListComp elt [⟨tg, iter, ifs, 0⟩] scope pos) (some (.Name y py)) spos.line X.env = pure true := by rfl)
    (ok : blkC X.N X.env.scope scope own = true := by rfl) (hm : (own.map (·.2)).all (fun v => mode o v == 0) = true := by rfl) (his : is.all (fun i => (own.map (·.2)).contains i) = true := by rfl) (hc : X.calm = true := by rfl) (hs : ∀ x, foldedSetIterable iter X.env x = pure x := by intro _; rfl) :
    DS X T o kr (.Assign [.Name y py] (.ListComp elt [⟨tg, iter, ifs, 0⟩] scope pos) spos) (sSet i (fLc .S (own.map (·.2)) fi b t e)) := ⟨fun W tk => by
  have hm' : ∀ v ∈ own.map (·.2), mode o v = 0 := fun v hv => by simpa using List.all_eq_true.mp hm v hv
  have his' : ∀ i ∈ is, i ∈ own.map (·.2) := fun i h => by simpa using List.all_eq_true.mp his i h
  refine ⟨_, ps_setLc hc hN hy hyl hsw (hi.pi tk) (blkOk_by ok) (g := gD X.K T o is b) (fun s H C cl fp => (hg s H C cl fp).pg) (tt := tDT X.K T o qt t (fun _ _ _ _ => False)) (fun s H C cl fp => (ht s H C cl fp).run) (te := tD X.K T o qe .S e (fun _ _ _ _ => False)) (fun s H C cl fp => (he s H C cl fp).pe L2.takes0) hs, fun r σ H w D s h => ?_⟩
  exact lc_run (ke := .S) (kz := .S) (.inl rfl) hm' his' (fit := fitK .S) (fun l hl => .inl ⟨rfl, .inl rfl, hl⟩) r σ H w _ s (GdS.fst h fun d r1 v H1 w1 z1 s1 t1 v1 h1 => h1 _ H1 w1 (s1.set0 hmi v1) (Stp.set0 hmi))⟩
end
end Mir

set_option Elab.async false
set_option linter.all false
set_option maxRecDepth 100000
set_option maxHeartbeats 1000000
namespace Mir
open PySem L2
/-! ### running the mirror -/
inductive Rs where
  | stk | ok (d : D) | ex (c : Nat)
def rs : Out D → Rs
  | .stk => .stk
  | .ok d _ => .ok d
  | .ex c _ => .ex c
/-- a call's result at the caller's slots -/
def vO' (x : Rs) (r : Rho) : Out D := match x with
  | .stk => .stk
  | .ok d => .ok d r
  | .ex c => .ex c r
section
variable {α β : Type} {f : M α} {g : α → M β} {r r' : Rho} {a : α}
theorem bnd_ok (h : f r = .ok a r') : bnd f g r = g a r' := by unfold bnd; rw [h]
theorem bnd_ex {c : Nat} (h : f r = .ex c r') : bnd f g r = .ex c r' := by unfold bnd; rw [h]
@[simp] theorem lif_some : lif (some a) r = .ok a r := rfl
@[simp] theorem fC_ok {d : D} : fC d r = .ok d r := rfl
theorem fVar_ok {i : Nat} {d : D} (h : r[i]? = some (some d)) : fVar i r = .ok d r := by unfold fVar; rw [h]
theorem m2_ok {h : D → D → Option D} {fa fb : M D} {x y z : D} {r1 r2 : Rho} (ha : fa r = .ok x r1) (hb : fb r1 = .ok y r2) (hz : h x y = some z) : m2 h fa fb r = .ok z r2 := by
  unfold m2; rw [bnd_ok ha, bnd_ok hb, hz]; rfl
theorem fn1_ok {h : D → Option D} {fa : M D} {x z : D} {r1 : Rho} (ha : fa r = .ok x r1) (hz : h x = some z) : fn1 h fa r = .ok z r1 := by
  unfold fn1; rw [bnd_ok ha, hz]; rfl
theorem fM1_ok {h : D → D → Option D} {fa fb : M D} {x : List Nat} {y z : D} {r1 r2 : Rho} (ha : fa r = .ok (.str x) r1) (hb : fb r1 = .ok y r2) (hz : h (.str x) y = some z) : fM1 h fa fb r = .ok z r2 := by
  unfold fM1; rw [bnd_ok ha]
  show (bnd fb fun y => lif (h (.str x) y)) r1 = _
  rw [bnd_ok hb, hz]; rfl
@[simp] theorem fNil_ok : fNil r = .ok [] r := rfl
theorem fCons_ok {fa : M D} {fs : M (List D)} {x : D} {xs : List D} {r1 r2 : Rho} (ha : fa r = .ok x r1) (hb : fs r1 = .ok xs r2) : fCons fa fs r = .ok (x :: xs) r2 := by
  unfold fCons; rw [bnd_ok ha, bnd_ok hb]
theorem fTup_ok {fs : M (List D)} {xs : List D} {r1 : Rho} (h : fs r = .ok xs r1) (hl : lim xs.length = true := by rfl) : fTup fs r = .ok (.tup xs) r1 := by
  unfold fTup; rw [bnd_ok h, if_pos hl]; rfl
theorem fLst_ok {k : Kd} {fs : M (List D)} {xs : List D} {r1 : Rho} (h : fs r = .ok xs r1) (hl : (lim xs.length && fitK k xs) = true := by rfl) : fLst k fs r = .ok (.lst xs) r1 := by
  unfold fLst; rw [bnd_ok h, if_pos hl]; rfl
theorem fB_ok {fa : M D} {b : Bool} {r1 : Rho} (h : fa r = .ok (.bl b) r1) : fB fa r = .ok b r1 := by unfold fB; rw [bnd_ok h]
theorem fNot_ok {fa : M Bool} {b : Bool} {r1 : Rho} (h : fa r = .ok b r1) : fNot fa r = .ok (!b) r1 := by unfold fNot; rw [bnd_ok h]
theorem fAnd_ok {fa fb : M Bool} {a b : Bool} {r1 : Rho} (h : fa r = .ok a r1) (h2 : a = true → fb r1 = .ok b r1) : fAnd fa fb r = .ok (a && b) r1 := by
  unfold fAnd; rw [bnd_ok h]
  cases a with
  | true => rw [if_pos rfl, h2 rfl]; rfl
  | false => rfl
theorem fOr_ok {fa fb : M Bool} {a b : Bool} {r1 : Rho} (h : fa r = .ok a r1) (h2 : a = false → fb r1 = .ok b r1) : fOr fa fb r = .ok (a || b) r1 := by
  unfold fOr; rw [bnd_ok h]
  cases a with
  | false => rw [if_neg Bool.false_ne_true, h2 rfl]; rfl
  | true => rfl
theorem fIf_ok {c : M Bool} {fa fb : M β} {b : Bool} {r1 : Rho} (h : c r = .ok b r1) : fIf c fa fb r = (if b then fa r1 else fb r1) := by
  unfold fIf; rw [bnd_ok h]; cases b <;> rfl
theorem fChain_ok {g g' : D → D → Option D} {fa fb fc : M D} {x y z : D} {b b' : Bool} (h1 : fa r = .ok x r) (h2 : fb r = .ok y r) (h3 : fc r = .ok z r) (e1 : g x y = some (.bl b)) (e2 : g' y z = some (.bl b')) : fChain g g' fa fb fc r = .ok (.bl (b && b')) r := by
  unfold fChain; rw [bnd_ok h1, bnd_ok h2, bnd_ok (show lif (g x y) r = .ok (.bl b) r by rw [e1]; rfl)]
  cases b with
  | true => show (bnd fc fun u => lif (g' y u)) r = _; rw [bnd_ok h3, e2]; rfl
  | false => rfl
theorem fPart_ok {fa : M D} {i : Int} {r1 : Rho} (h : fa r = .ok (.int i) r1) : fPart fa r = .ok (some i) r1 := by unfold fPart; rw [bnd_ok h]
@[simp] theorem fNo_ok : fNo r = .ok none r := rfl
theorem fSl_ok {k : Kd} {fa : M D} {fl fh : M (Option Int)} {x z : D} {lo hi : Option Int} (h1 : fa r = .ok x r) (h2 : fl r = .ok lo r) (h3 : fh r = .ok hi r) (e : sliceD k x lo hi = some z) : fSl k fa fl fh r = .ok z r := by
  unfold fSl; rw [bnd_ok h1, bnd_ok h2, bnd_ok h3, e]; rfl
theorem fIt_ok {h : D → Option (List D)} {fa : M D} {x : D} {z : List D} {r1 : Rho} (ha : fa r = .ok x r1) (hz : h x = some z) : fIt h fa r = .ok z r1 := by
  unfold fIt; rw [bnd_ok ha, hz]; rfl
theorem fItA_ok {h : List D → Option (List D)} {fa : M (List D)} {x z : List D} {r1 : Rho} (ha : fa r = .ok x r1) (hz : h x = some z) : fItA h fa r = .ok z r1 := by
  unfold fItA; rw [bnd_ok ha, hz]; rfl
end
/-! calls by value -/
theorem fill_none : ∀ (ds : List D) (r : Rho), fillD (ds.map fun _ => none) ds r = some ds
  | [], r => rfl
  | d :: ds, r => by show (fillD (ds.map fun _ => none) ds r).map (d :: ·) = _; rw [fill_none ds r]; rfl
theorem back_none : ∀ (ds : List D) (j : Nat) (r2 r : Rho), backD (ds.map fun _ => none) j r2 r = r
  | [], _, _, _ => rfl
  | d :: ds, j, r2, r => back_none ds (j + 1) r2 r
theorem call_v {as : List (Option Nat)} {m : List D → Out D} {f : M (List D)} {ds : List D} {r r1 : Rho} {x : Rs} (h : f r = .ok ds r1) (ha : as = ds.map (fun _ => none) := by rfl) (hx : rs (m ds) = x) : fCall as m f r = vO' x r1 := by
  subst ha
  unfold fCall
  rw [bnd_ok h, fill_none]
  show (match m ds with | .stk => Out.stk | .ok d r2 => Out.ok d (backD (ds.map fun _ => none) 0 r2 r1) | .ex c r2 => Out.ex c (backD (ds.map fun _ => none) 0 r2 r1)) = _
  cases e : m ds with
  | stk => rw [e] at hx; subst hx; rfl
  | ok d r2 => rw [e] at hx; subst hx; show Out.ok d (backD _ 0 r2 r1) = _; rw [back_none]; rfl
  | ex c r2 => rw [e] at hx; subst hx; show Out.ex c (backD _ 0 r2 r1) = _; rw [back_none]; rfl
theorem call_ok {as : List (Option Nat)} {m : List D → Out D} {f : M (List D)} {ds : List D} {d : D} {r r1 : Rho} (h : f r = .ok ds r1) (hx : rs (m ds) = .ok d) (ha : as = ds.map (fun _ => none) := by rfl) : fCall as m f r = .ok d r1 := call_v h ha hx
theorem call_ex {as : List (Option Nat)} {m : List D → Out D} {f : M (List D)} {ds : List D} {c : Nat} {r r1 : Rho} (h : f r = .ok ds r1) (hx : rs (m ds) = .ex c) (ha : as = ds.map (fun _ => none) := by rfl) : fCall as m f r = .ex c r1 := call_v h ha hx
/-! statements -/
def rF : Fl → Rs
  | .nx _ => .ok .non
  | .rt d _ => .ok d
  | .ex c _ => .ex c
  | _ => .stk
theorem rs_run {n : Nat} {b : Rho → Fl} {ds : List D} : rs (runB n b ds) = rF (b (startR n ds)) := by
  unfold runB
  cases b (startR n ds) <;> rfl
section
variable {α : Type} {f : M α} {g : α → Rho → Fl} {s t : Rho → Fl} {r r' : Rho} {a : α}
theorem sE_ok (h : f r = .ok a r') : sE f g r = g a r' := by unfold sE; rw [h]
theorem sE_ex {c : Nat} (h : f r = .ex c r') : sE f g r = .ex c r' := by unfold sE; rw [h]
theorem sS_nx (h : s r = .nx r') : sS s t r = t r' := by unfold sS; rw [h]
theorem sS_rt {d : D} (h : s r = .rt d r') : sS s t r = .rt d r' := by unfold sS; rw [h]
theorem sS_ex {c : Nat} (h : s r = .ex c r') : sS s t r = .ex c r' := by unfold sS; rw [h]
theorem sSet_ok {i : Nat} {f : M D} {d : D} (h : f r = .ok d r') : sSet i f r = .nx (r'.set i (some d)) := sE_ok h
theorem sIf_ok {c : M Bool} {b : Bool} (h : c r = .ok b r') : sIf c s t r = (if b then s r' else t r') := by
  unfold sIf; rw [sE_ok h]; cases b <;> rfl
theorem sRet_ok {f : M D} {d : D} (h : f r = .ok d r') : sRet f r = .rt d r' := sE_ok h
theorem sDrop_ok {f : M D} {d : D} (h : f r = .ok d r') : sDrop f r = .nx r' := sE_ok h
theorem sAug_ok {i : Nat} {f : M D} {g : D → D → Option D} {x y z : D} (hx : r[i]? = some (some x)) (h : f r = .ok y r') (hz : g x y = some z) : sAug i g f r = .nx (r'.set i (some z)) := by
  unfold sAug; rw [hx]; show sE f _ r = _; rw [sE_ok h, hz]
theorem sPar2_ok {i j : Nat} {f : M (List D)} {x y : D} (h : f r = .ok [x, y] r') : sPar2 i j f r = .nx ((r'.set i (some x)).set j (some y)) := sE_ok h
theorem sAsg_ok {f : M D} {b : D → Rho → Option Rho} {d : D} {r2 : Rho} (h : f r = .ok d r') (hb : b d r' = some r2) : sAsg f b r = .nx r2 := by
  unfold sAsg; rw [sE_ok h, hb]
theorem sFor_ok {f : M (List D)} {b : D → Rho → Option Rho} {body : Rho → Fl} {ds : List D} (h : f r = .ok ds r') : sFor f b body r = forL b body ds r' := sE_ok h
end
theorem forL_cons {b : D → Rho → Option Rho} {body : Rho → Fl} {d : D} {ds : List D} {r r1 r2 : Rho} (hb : b d r = some r1) (h : body r1 = .nx r2) : forL b body (d :: ds) r = forL b body ds r2 := by
  show (match b d r with | none => Fl.stk | some r1 => lp (body r1) (forL b body ds)) = _
  rw [hb]
  show lp (body r1) _ = _
  rw [h]
  rfl
/-- a loop whose body always goes on, an invariant -/
theorem forL_inv {b : D → Rho → Option Rho} {body : Rho → Fl} (I : Nat → Rho → Prop) : ∀ (ds : List D) (i : Nat) (r : Rho), I i r → (∀ j d r, ds[j]? = some d → I (i + j) r → ∃ r1 r2, b d r = some r1 ∧ body r1 = .nx r2 ∧ I (i + j + 1) r2) → ∃ r', forL b body ds r = .nx r' ∧ I (i + ds.length) r'
  | [], i, r, h, _ => ⟨r, rfl, h⟩
  | d :: ds, i, r, h, hs => by
    obtain ⟨r1, r2, e1, e2, h2⟩ := hs 0 d r rfl h
    obtain ⟨r', e3, h3⟩ := forL_inv I ds (i + 1) r2 h2 fun j d' r' hj hr => by
      have := hs (j + 1) d' r' (by simpa using hj) (by rw [show i + (j + 1) = i + 1 + j by omega]; exact hr)
      rw [show i + (j + 1) = i + 1 + j by omega] at this
      exact this
    refine ⟨r', by rw [forL_cons e1 e2]; exact e3, ?_⟩
    rw [List.length_cons, show i + (ds.length + 1) = i + 1 + ds.length by omega]
    exact h3
/-! scans -/
def dn (p : Nat → Bool) : Nat → Nat
  | 0 => 0
  | n + 1 => if p n then dn p n else n + 1
def up (p : Nat → Bool) : Nat → Nat → Nat
  | 0, s => s
  | k + 1, s => if p s then up p k (s + 1) else s
theorem set_set {r : Rho} {i : Nat} {a b : Option D} : (r.set i a).set i b = r.set i b := by simp
theorem while_dn {c : M Bool} {b : Rho → Fl} {i : Nat} {p : Nat → Bool} {r : Rho} {n : Nat} (hc : ∀ s : Nat, s ≤ n → c (r.set i (some (.int s))) = .ok (decide (0 < s) && p (s - 1)) (r.set i (some (.int s)))) (hb : ∀ s : Nat, s < n → b (r.set i (some (.int (s + 1 : Nat)))) = .nx (r.set i (some (.int s)))) :
    ∀ (fuel s : Nat), s < fuel → s ≤ n → whileL c b fuel (r.set i (some (.int s))) = .nx (r.set i (some (.int (dn p s))))
  | 0, s, h, _ => absurd h (Nat.not_lt_zero _)
  | fuel + 1, s, h, hn => by
    unfold whileL
    rw [sE_ok (hc s hn)]
    cases s with
    | zero => rfl
    | succ s =>
      by_cases hp : p s = true
      · have e : (decide (0 < s + 1) && p (s + 1 - 1)) = true := by simp [hp]
        rw [e, if_pos rfl]
        show lp (b _) _ = _
        rw [hb s (by omega)]
        show whileL c b fuel _ = _
        rw [while_dn hc hb fuel s (by omega) (by omega)]
        simp [dn, hp]
      · have e : (decide (0 < s + 1) && p (s + 1 - 1)) = false := by simp [hp]
        rw [e]
        simp [dn, hp]
theorem while_up {c : M Bool} {b : Rho → Fl} {i : Nat} {p : Nat → Bool} {r : Rho} {n : Nat} (hc : ∀ s : Nat, s ≤ n → c (r.set i (some (.int s))) = .ok (decide (s < n) && p s) (r.set i (some (.int s)))) (hb : ∀ s : Nat, s < n → b (r.set i (some (.int s))) = .nx (r.set i (some (.int (s + 1 : Nat))))) :
    ∀ (k fuel s : Nat), k < fuel → s + k = n → whileL c b fuel (r.set i (some (.int s))) = .nx (r.set i (some (.int (up p k s))))
  | k, 0, s, h, _ => absurd h (Nat.not_lt_zero _)
  | 0, fuel + 1, s, h, hn => by
    unfold whileL
    have hs : s = n := by omega
    rw [sE_ok (hc s (by omega))]
    have e : (decide (s < n) && p s) = false := by simp [hs]
    rw [e]
    rfl
  | k + 1, fuel + 1, s, h, hn => by
    unfold whileL
    rw [sE_ok (hc s (by omega))]
    by_cases hp : p s = true
    · have e : (decide (s < n) && p s) = true := by simp [hp]; omega
      rw [e, if_pos rfl]
      show lp (b _) _ = _
      rw [hb s (by omega)]
      show whileL c b fuel _ = _
      rw [while_up hc hb k fuel (s + 1) (by omega) (by omega)]
      simp [up, hp]
    · have e : (decide (s < n) && p s) = false := by simp [hp]
      rw [e]
      simp [up, hp]
/-! list comprehensions of pure parts -/
theorem lcL_pure {vs : List Nat} {b : D → Rho → Option Rho} {t : M Bool} {e : M D} {r : Rho} {ρ : D → Rho} {pt : D → Bool} {pe : D → D} : ∀ (ds : List D), (∀ d ∈ ds, b d r = some (ρ d)) → (∀ d ∈ ds, t (ρ d) = .ok (pt d) (ρ d)) → (∀ d ∈ ds, pt d = true → e (ρ d) = .ok (pe d) (ρ d)) → (∀ d ∈ ds, wipeR (ρ d) vs = r) →
    lcL vs b t e ds r = some ((ds.filter pt).map pe, r)
  | [], _, _, _, _ => rfl
  | d :: ds, hb, ht, he, hw => by
    have ih := lcL_pure ds (fun d h => hb d (by simp [h])) (fun d h => ht d (by simp [h])) (fun d h => he d (by simp [h])) (fun d h => hw d (by simp [h]))
    unfold lcL
    rw [hb d (by simp)]
    show (match t (ρ d) with | _ => _) = _
    rw [ht d (by simp)]
    cases hp : pt d with
    | true =>
      show (match e (ρ d) with | _ => _) = _
      rw [he d (by simp) hp]
      show (lcL vs b t e ds (wipeR (ρ d) vs)).map _ = _
      rw [hw d (by simp), ih]
      simp [hp]
    | false =>
      show lcL vs b t e ds (wipeR (ρ d) vs) = _
      rw [hw d (by simp), ih]
      simp [hp]
theorem unw_wipe {r : Rho} {vs : List Nat} : unw r vs (wipeR r vs) = r := by
  refine List.ext_getElem? fun i => ?_
  by_cases hi : i ∈ vs
  · rw [unw_in (by rw [wipeR_length]) hi]
  · rw [unw_out hi, wipeR_out hi]
theorem fLc_ok {k : Kd} {vs : List Nat} {fi : M (List D)} {b : D → Rho → Option Rho} {t : M Bool} {e : M D} {r : Rho} {ρ : D → Rho} {pt : D → Bool} {pe : D → D} {ds : List D} (hi : fi r = .ok ds r) (hb : ∀ d ∈ ds, b d (wipeR r vs) = some (ρ d)) (ht : ∀ d ∈ ds, t (ρ d) = .ok (pt d) (ρ d)) (he : ∀ d ∈ ds, pt d = true → e (ρ d) = .ok (pe d) (ρ d)) (hw : ∀ d ∈ ds, wipeR (ρ d) vs = wipeR r vs)
    (hl : (lim ((ds.filter pt).map pe).length && fitK k ((ds.filter pt).map pe)) = true) : fLc k vs fi b t e r = .ok (.lst ((ds.filter pt).map pe)) r := by
  unfold fLc
  rw [bnd_ok hi, lcL_pure ds hb ht he hw]
  show (if _ then Out.ok _ _ else _) = _
  rw [if_pos hl, unw_wipe]
/-- one name, the block's own slot -/
theorem fLc1 {k : Kd} {v : Nat} {fi : M (List D)} {t : M Bool} {e : M D} {r : Rho} {pt : D → Bool} {pe : D → D} {ds : List D} (hi : fi r = .ok ds r) (ht : ∀ d ∈ ds, t (r.set v (some d)) = .ok (pt d) (r.set v (some d))) (he : ∀ d ∈ ds, pt d = true → e (r.set v (some d)) = .ok (pe d) (r.set v (some d)))
    (hl : (lim ((ds.filter pt).map pe).length && fitK k ((ds.filter pt).map pe)) = true) : fLc k [v] fi (bNm v) t e r = .ok (.lst ((ds.filter pt).map pe)) r :=
  fLc_ok (ρ := fun d => r.set v (some d)) hi (fun d _ => by show some ((r.set v none).set v (some d)) = _; rw [set_set]) ht he (fun d _ => by show (r.set v (some d)).set v none = r.set v none; rw [set_set]) hl
theorem fYes_ok {r : Rho} : fYes r = .ok true r := rfl
end Mir

set_option Elab.async false
set_option linter.all false
set_option maxRecDepth 100000
set_option maxHeartbeats 1000000
namespace Mir
open PySem L2
/-! ### the mirror, run by rewriting: first the part, then what goes on -/
section
variable {α β : Type}
def kB (x : Out α) (g : α → M β) : Out β := match x with
  | .stk => .stk | .ok a r => g a r | .ex c r => .ex c r
@[simp] theorem kB_ok {a : α} {r : Rho} {g : α → M β} : kB (.ok a r) g = g a r := rfl
@[simp] theorem kB_ex {c : Nat} {r : Rho} {g : α → M β} : kB (.ex c r) g = .ex c r := rfl
theorem bnd_k {f : M α} {g : α → M β} {r : Rho} : bnd f g r = kB (f r) g := rfl
def lO (o : Option α) (r : Rho) : Out α := match o with | some a => .ok a r | none => .stk
@[simp] theorem lO_some {a : α} {r : Rho} : lO (some a) r = .ok a r := rfl
@[simp] theorem fC_k {d : D} {r : Rho} : fC d r = .ok d r := rfl
def kV (o : Option (Option D)) (r : Rho) : Out D := match o with | some (some d) => .ok d r | _ => .stk
@[simp] theorem kV_some {d : D} {r : Rho} : kV (some (some d)) r = .ok d r := rfl
@[simp] theorem fVar_k {i : Nat} {r : Rho} : fVar i r = kV r[i]? r := rfl
def kM2b (h : D → D → Option D) (x : D) (o : Out D) : Out D := kB o fun y r => lO (h x y) r
@[simp] theorem kM2b_ok {h : D → D → Option D} {x y : D} {r : Rho} : kM2b h x (.ok y r) = lO (h x y) r := rfl
@[simp] theorem kM2b_ex {h : D → D → Option D} {x : D} {c : Nat} {r : Rho} : kM2b h x (.ex c r) = .ex c r := rfl
def kM2 (h : D → D → Option D) (o : Out D) (fb : M D) : Out D := kB o fun x r => kM2b h x (fb r)
@[simp] theorem kM2_ok {h : D → D → Option D} {x : D} {r : Rho} {fb : M D} : kM2 h (.ok x r) fb = kM2b h x (fb r) := rfl
@[simp] theorem kM2_ex {h : D → D → Option D} {c : Nat} {r : Rho} {fb : M D} : kM2 h (.ex c r) fb = .ex c r := rfl
@[simp] theorem m2_k {h : D → D → Option D} {fa fb : M D} {r : Rho} : m2 h fa fb r = kM2 h (fa r) fb := rfl
def kF1 (h : D → Option D) (o : Out D) : Out D := kB o fun x r => lO (h x) r
@[simp] theorem kF1_ok {h : D → Option D} {x : D} {r : Rho} : kF1 h (.ok x r) = lO (h x) r := rfl
@[simp] theorem kF1_ex {h : D → Option D} {c : Nat} {r : Rho} : kF1 h (.ex c r) = .ex c r := rfl
@[simp] theorem fn1_k {h : D → Option D} {f : M D} {r : Rho} : fn1 h f r = kF1 h (f r) := rfl
def kFM (h : D → D → Option D) (o : Out D) (fb : M D) : Out D := kB o fun x r => if isStrD x then kM2b h x (fb r) else .stk
@[simp] theorem kFM_ok {h : D → D → Option D} {x : List Nat} {r : Rho} {fb : M D} : kFM h (.ok (.str x) r) fb = kM2b h (.str x) (fb r) := rfl
@[simp] theorem kFM_ex {h : D → D → Option D} {c : Nat} {r : Rho} {fb : M D} : kFM h (.ex c r) fb = .ex c r := rfl
@[simp] theorem fM1_k {h : D → D → Option D} {fa fb : M D} {r : Rho} : fM1 h fa fb r = kFM h (fa r) fb := by
  unfold fM1 kFM
  show bnd _ _ _ = _
  unfold bnd kB
  cases fa r with
  | ok x r1 => cases x <;> rfl
  | stk => rfl
  | ex => rfl
def kC2 (x : D) (o : Out (List D)) : Out (List D) := kB o fun xs r => .ok (x :: xs) r
@[simp] theorem kC2_ok {x : D} {xs : List D} {r : Rho} : kC2 x (.ok xs r) = .ok (x :: xs) r := rfl
@[simp] theorem kC2_ex {x : D} {c : Nat} {r : Rho} : kC2 x (.ex c r) = .ex c r := rfl
def kC1 (o : Out D) (fs : M (List D)) : Out (List D) := kB o fun x r => kC2 x (fs r)
@[simp] theorem kC1_ok {x : D} {r : Rho} {fs : M (List D)} : kC1 (.ok x r) fs = kC2 x (fs r) := rfl
@[simp] theorem kC1_ex {c : Nat} {r : Rho} {fs : M (List D)} : kC1 (.ex c r) fs = .ex c r := rfl
@[simp] theorem fCons_k {f : M D} {fs : M (List D)} {r : Rho} : fCons f fs r = kC1 (f r) fs := rfl
def tupO' (ds : List D) : Option D := if lim ds.length then some (.tup ds) else none
def lstO' (k : Kd) (ds : List D) : Option D := if lim ds.length && fitK k ds then some (.lst ds) else none
def kT (o : Out (List D)) : Out D := kB o fun ds r => lO (tupO' ds) r
@[simp] theorem kT_ok {ds : List D} {r : Rho} : kT (.ok ds r) = lO (tupO' ds) r := rfl
@[simp] theorem kT_ex {c : Nat} {r : Rho} : kT (.ex c r) = .ex c r := rfl
@[simp] theorem fTup_k {f : M (List D)} {r : Rho} : fTup f r = kT (f r) := rfl
def kL (k : Kd) (o : Out (List D)) : Out D := kB o fun ds r => lO (lstO' k ds) r
@[simp] theorem kL_ok {k : Kd} {ds : List D} {r : Rho} : kL k (.ok ds r) = lO (lstO' k ds) r := rfl
@[simp] theorem kL_ex {k : Kd} {c : Nat} {r : Rho} : kL k (.ex c r) = .ex c r := rfl
@[simp] theorem fLst_k {k : Kd} {f : M (List D)} {r : Rho} : fLst k f r = kL k (f r) := rfl
@[simp] theorem tup1 {a : D} : tupO' [a] = some (.tup [a]) := rfl
@[simp] theorem tup2 {a b : D} : tupO' [a, b] = some (.tup [a, b]) := rfl
@[simp] theorem tup3 {a b c : D} : tupO' [a, b, c] = some (.tup [a, b, c]) := rfl
@[simp] theorem tup4 {a b c d : D} : tupO' [a, b, c, d] = some (.tup [a, b, c, d]) := rfl
@[simp] theorem lst0 {k : Kd} : lstO' k [] = some (.lst []) := by cases k <;> rfl
@[simp] theorem lst1 {a : D} : lstO' .S [a] = some (.lst [a]) := rfl
@[simp] theorem lst2 {a b : D} : lstO' .S [a, b] = some (.lst [a, b]) := rfl
@[simp] theorem lst3 {a b c : D} : lstO' .S [a, b, c] = some (.lst [a, b, c]) := rfl
@[simp] theorem lst1F {a : D} : lstO' .F [a] = if leafy a then some (.lst [a]) else none := by simp [lstO', fitK, lim]
@[simp] theorem lst3F {a b c : Int} : lstO' .F [.int a, .int b, .int c] = some (.lst [.int a, .int b, .int c]) := rfl
def kFB (o : Out D) : Out Bool := kB o fun x r => match x with | .bl b => .ok b r | _ => .stk
@[simp] theorem kFB_ok {b : Bool} {r : Rho} : kFB (.ok (.bl b) r) = .ok b r := rfl
@[simp] theorem kFB_ex {c : Nat} {r : Rho} : kFB (.ex c r) = .ex c r := rfl
@[simp] theorem fB_k {f : M D} {r : Rho} : fB f r = kFB (f r) := by
  unfold fB kFB bnd kB
  cases f r with
  | ok x r1 => cases x <;> rfl
  | stk => rfl
  | ex => rfl
def kN (o : Out Bool) : Out Bool := kB o fun b r => .ok (!b) r
@[simp] theorem kN_ok {b : Bool} {r : Rho} : kN (.ok b r) = .ok (!b) r := rfl
@[simp] theorem kN_ex {c : Nat} {r : Rho} : kN (.ex c r) = .ex c r := rfl
@[simp] theorem fNot_k {f : M Bool} {r : Rho} : fNot f r = kN (f r) := rfl
def kIt (o : Out Bool) (f g : M α) : Out α := kB o fun b r => if b then f r else g r
@[simp] theorem kIt_ok {b : Bool} {r : Rho} {f g : M α} : kIt (.ok b r) f g = if b = true then f r else g r := rfl
@[simp] theorem kIt_ex {c : Nat} {r : Rho} {f g : M α} : kIt (.ex c r) f g = .ex c r := rfl
@[simp] theorem fIf_k {c : M Bool} {f g : M α} {r : Rho} : fIf c f g r = kIt (c r) f g := by
  unfold fIf kIt bnd kB
  cases c r with
  | ok x r1 => cases x <;> rfl
  | stk => rfl
  | ex => rfl
@[simp] theorem fYes_k {r : Rho} : fYes r = .ok true r := rfl
def kAn (o : Out Bool) (g : M Bool) : Out Bool := kB o fun b r => if b then g r else .ok false r
@[simp] theorem kAn_ok {b : Bool} {r : Rho} {g : M Bool} : kAn (.ok b r) g = if b = true then g r else .ok false r := rfl
@[simp] theorem kAn_ex {c : Nat} {r : Rho} {g : M Bool} : kAn (.ex c r) g = .ex c r := rfl
@[simp] theorem fAnd_k {f g : M Bool} {r : Rho} : fAnd f g r = kAn (f r) g := by
  unfold fAnd kAn bnd kB
  cases f r with
  | ok x r1 => cases x <;> rfl
  | stk => rfl
  | ex => rfl
def kOr (o : Out Bool) (g : M Bool) : Out Bool := kB o fun b r => if b then .ok true r else g r
@[simp] theorem kOr_ok {b : Bool} {r : Rho} {g : M Bool} : kOr (.ok b r) g = if b = true then .ok true r else g r := rfl
@[simp] theorem kOr_ex {c : Nat} {r : Rho} {g : M Bool} : kOr (.ex c r) g = .ex c r := rfl
@[simp] theorem fOr_k {f g : M Bool} {r : Rho} : fOr f g r = kOr (f r) g := by
  unfold fOr kOr bnd kB
  cases f r with
  | ok x r1 => cases x <;> rfl
  | stk => rfl
  | ex => rfl
@[simp] theorem ite_ok {p : Prop} [Decidable p] {x y : α} {r : Rho} : (if p then Out.ok x r else Out.ok y r) = Out.ok (if p then x else y) r := by split <;> rfl
def kAV (o : Out D) (g : M D) : Out D := kB o fun x r => match x with | .bl true => g r | .bl false => .ok (.bl false) r | _ => .stk
@[simp] theorem kAV_ok {b : Bool} {r : Rho} {g : M D} : kAV (.ok (.bl b) r) g = if b = true then g r else .ok (.bl false) r := by cases b <;> rfl
@[simp] theorem fAndV_k {f g : M D} {r : Rho} : fAndV f g r = kAV (f r) g := by
  unfold fAndV kAV bnd kB
  cases f r with
  | ok x r1 =>
    cases x with
    | bl b => cases b <;> rfl
    | _ => rfl
  | stk => rfl
  | ex => rfl
def kCh3 (g' : D → D → Option D) (y : D) (o : Option D) (fc : M D) (r : Rho) : Out D := match o with
  | some (.bl true) => kM2b g' y (fc r)
  | some (.bl false) => .ok (.bl false) r
  | _ => .stk
@[simp] theorem kCh3_ok {g' : D → D → Option D} {y : D} {b : Bool} {fc : M D} {r : Rho} : kCh3 g' y (some (.bl b)) fc r = if b = true then kM2b g' y (fc r) else .ok (.bl false) r := by cases b <;> rfl
def kCh2 (g g' : D → D → Option D) (x : D) (o : Out D) (fc : M D) : Out D := kB o fun y r => kCh3 g' y (g x y) fc r
@[simp] theorem kCh2_ok {g g' : D → D → Option D} {x y : D} {fc : M D} {r : Rho} : kCh2 g g' x (.ok y r) fc = kCh3 g' y (g x y) fc r := rfl
def kCh1 (g g' : D → D → Option D) (o : Out D) (fb fc : M D) : Out D := kB o fun x r => kCh2 g g' x (fb r) fc
@[simp] theorem kCh1_ok {g g' : D → D → Option D} {x : D} {fb fc : M D} {r : Rho} : kCh1 g g' (.ok x r) fb fc = kCh2 g g' x (fb r) fc := rfl
@[simp] theorem fChain_k {g g' : D → D → Option D} {fa fb fc : M D} {r : Rho} : fChain g g' fa fb fc r = kCh1 g g' (fa r) fb fc := by
  unfold fChain kCh1 kCh2 kCh3 bnd kB
  cases fa r with
  | ok x r1 =>
    dsimp only
    cases fb r1 with
    | ok y r2 =>
      dsimp only
      unfold lif
      cases g x y with
      | none => rfl
      | some z =>
        cases z with
        | bl b => cases b <;> rfl
        | _ => rfl
    | _ => rfl
  | _ => rfl
def kP (o : Out D) : Out (Option Int) := kB o fun x r => match x with | .int i => .ok (some i) r | _ => .stk
@[simp] theorem kP_ok {i : Int} {r : Rho} : kP (.ok (.int i) r) = .ok (some i) r := rfl
@[simp] theorem fPart_k {f : M D} {r : Rho} : fPart f r = kP (f r) := by
  unfold fPart kP bnd kB
  cases f r with
  | ok x r1 => cases x <;> rfl
  | stk => rfl
  | ex => rfl
def kS3 (k : Kd) (x : D) (lo : Option Int) (o : Out (Option Int)) : Out D := kB o fun hi r => lO (sliceD k x lo hi) r
@[simp] theorem kS3_ok {k : Kd} {x : D} {lo hi : Option Int} {r : Rho} : kS3 k x lo (.ok hi r) = lO (sliceD k x lo hi) r := rfl
def kS2 (k : Kd) (x : D) (o : Out (Option Int)) (h : M (Option Int)) : Out D := kB o fun lo r => kS3 k x lo (h r)
@[simp] theorem kS2_ok {k : Kd} {x : D} {lo : Option Int} {r : Rho} {h : M (Option Int)} : kS2 k x (.ok lo r) h = kS3 k x lo (h r) := rfl
def kS1 (k : Kd) (o : Out D) (g h : M (Option Int)) : Out D := kB o fun x r => kS2 k x (g r) h
@[simp] theorem kS1_ok {k : Kd} {x : D} {r : Rho} {g h : M (Option Int)} : kS1 k (.ok x r) g h = kS2 k x (g r) h := rfl
@[simp] theorem fSl_k {k : Kd} {f : M D} {g h : M (Option Int)} {r : Rho} : fSl k f g h r = kS1 k (f r) g h := rfl
def kI (h : D → Option (List D)) (o : Out D) : Out (List D) := kB o fun x r => lO (h x) r
@[simp] theorem kI_ok {h : D → Option (List D)} {x : D} {r : Rho} : kI h (.ok x r) = lO (h x) r := rfl
@[simp] theorem kI_ex {h : D → Option (List D)} {c : Nat} {r : Rho} : kI h (.ex c r) = .ex c r := rfl
@[simp] theorem fIt_k {h : D → Option (List D)} {f : M D} {r : Rho} : fIt h f r = kI h (f r) := rfl
def kIA (h : List D → Option (List D)) (o : Out (List D)) : Out (List D) := kB o fun x r => lO (h x) r
@[simp] theorem kIA_ok {h : List D → Option (List D)} {x : List D} {r : Rho} : kIA h (.ok x r) = lO (h x) r := rfl
@[simp] theorem fItA_k {h : List D → Option (List D)} {f : M (List D)} {r : Rho} : fItA h f r = kIA h (f r) := rfl
/-! calls -/
@[simp] theorem vO_ok {d : D} {r : Rho} : vO' (.ok d) r = .ok d r := rfl
@[simp] theorem vO_ex {c : Nat} {r : Rho} : vO' (.ex c) r = .ex c r := rfl
def kCl (m : List D → Out D) (o : Out (List D)) : Out D := kB o fun ds r => vO' (rs (m ds)) r
@[simp] theorem kCl_ok {m : List D → Out D} {ds : List D} {r : Rho} : kCl m (.ok ds r) = vO' (rs (m ds)) r := rfl
@[simp] theorem kCl_ex {m : List D → Out D} {c : Nat} {r : Rho} : kCl m (.ex c r) = .ex c r := rfl
theorem call_none {n : Nat} {m : List D → Out D} {f : M (List D)} {r : Rho} (hl : ∀ ds r1, f r = .ok ds r1 → ds.length = n) : fCall (List.replicate n none) m f r = kCl m (f r) := by
  cases e : f r with
  | stk => unfold fCall bnd; rw [e]; rfl
  | ex c r1 => unfold fCall bnd; rw [e]; rfl
  | ok ds r1 =>
    rw [kCl_ok]
    refine call_v e ?_ rfl
    rw [← hl ds r1 e]
    clear e hl
    induction ds with
    | nil => rfl
    | cons d ds ih => rw [List.length_cons, List.replicate_succ, ih]; rfl
theorem cons_len {f : M D} {g : M (List D)} {n : Nat} (hg : ∀ r ds r1, g r = .ok ds r1 → ds.length = n) : ∀ r ds r1, fCons f g r = .ok ds r1 → ds.length = n + 1 := by
  intro r ds r1 h
  unfold fCons bnd at h
  split at h
  · cases h
  · dsimp only at h
    split at h
    · cases h
    · rename_i a r2 e
      cases h
      rw [List.length_cons, hg _ _ _ e]
    · cases h
  · cases h
theorem nil_len : ∀ r ds r1, fNil r = .ok ds r1 → ds.length = 0 := by
  intro r ds r1 h; cases h; rfl
@[simp] theorem call0 {m : List D → Out D} {r : Rho} : fCall [] m fNil r = vO' (rs (m [])) r := call_none (n := 0) (nil_len r)
@[simp] theorem call1 {m : List D → Out D} {r : Rho} {a : M D} : fCall [none] m (fCons a fNil) r = kCl m (fCons a fNil r) := call_none (n := 1) (cons_len nil_len r)
@[simp] theorem call2 {m : List D → Out D} {r : Rho} {a b : M D} : fCall [none, none] m (fCons a (fCons b fNil)) r = kCl m (fCons a (fCons b fNil) r) := call_none (n := 2) (cons_len (cons_len nil_len) r)
@[simp] theorem call3 {m : List D → Out D} {r : Rho} {a b c : M D} : fCall [none, none, none] m (fCons a (fCons b (fCons c fNil))) r = kCl m (fCons a (fCons b (fCons c fNil)) r) := call_none (n := 3) (cons_len (cons_len (cons_len nil_len)) r)
@[simp] theorem call4 {m : List D → Out D} {r : Rho} {a b c d : M D} : fCall [none, none, none, none] m (fCons a (fCons b (fCons c (fCons d fNil)))) r = kCl m (fCons a (fCons b (fCons c (fCons d fNil))) r) := call_none (n := 4) (cons_len (cons_len (cons_len (cons_len nil_len))) r)
@[simp] theorem call5 {m : List D → Out D} {r : Rho} {a b c d e : M D} : fCall [none, none, none, none, none] m (fCons a (fCons b (fCons c (fCons d (fCons e fNil))))) r = kCl m (fCons a (fCons b (fCons c (fCons d (fCons e fNil)))) r) := call_none (n := 5) (cons_len (cons_len (cons_len (cons_len (cons_len nil_len)))) r)
/-! statements -/
def kS (x : Fl) (t : Rho → Fl) : Fl := match x with | .nx r => t r | x => x
@[simp] theorem kS_nx {r : Rho} {t : Rho → Fl} : kS (.nx r) t = t r := rfl
@[simp] theorem kS_rt {d : D} {r : Rho} {t : Rho → Fl} : kS (.rt d r) t = .rt d r := rfl
@[simp] theorem kS_ex {c : Nat} {r : Rho} {t : Rho → Fl} : kS (.ex c r) t = .ex c r := rfl
@[simp] theorem kS_ite {p : Prop} [Decidable p] {x y : Fl} {t : Rho → Fl} : kS (if p then x else y) t = if p then kS x t else kS y t := by split <;> rfl
@[simp] theorem sS_k {s t : Rho → Fl} {r : Rho} : sS s t r = kS (s r) t := by
  unfold sS kS; cases s r <;> rfl
def kE (o : Out α) (g : α → Rho → Fl) : Fl := match o with | .stk => .stk | .ok a r => g a r | .ex c r => .ex c r
@[simp] theorem kE_ok {a : α} {r : Rho} {g : α → Rho → Fl} : kE (.ok a r) g = g a r := rfl
@[simp] theorem kE_ex {c : Nat} {r : Rho} {g : α → Rho → Fl} : kE (.ex c r) g = .ex c r := rfl
theorem sE_k {f : M α} {g : α → Rho → Fl} {r : Rho} : sE f g r = kE (f r) g := by
  unfold sE kE; cases f r <;> rfl
def kSt (i : Nat) (o : Out D) : Fl := kE o fun d r => .nx (r.set i (some d))
@[simp] theorem kSt_ok {i : Nat} {d : D} {r : Rho} : kSt i (.ok d r) = .nx (r.set i (some d)) := rfl
@[simp] theorem kSt_ex {i : Nat} {c : Nat} {r : Rho} : kSt i (.ex c r) = .ex c r := rfl
@[simp] theorem sSet_k {i : Nat} {f : M D} {r : Rho} : sSet i f r = kSt i (f r) := by
  unfold sSet; rw [sE_k]; rfl
def kSi (o : Out Bool) (s t : Rho → Fl) : Fl := kE o fun b r => if b then s r else t r
@[simp] theorem kSi_ok {b : Bool} {s t : Rho → Fl} {r : Rho} : kSi (.ok b r) s t = if b = true then s r else t r := rfl
@[simp] theorem kSi_ex {c : Nat} {s t : Rho → Fl} {r : Rho} : kSi (.ex c r) s t = .ex c r := rfl
@[simp] theorem sIf_k {c : M Bool} {s t : Rho → Fl} {r : Rho} : sIf c s t r = kSi (c r) s t := by
  unfold sIf; rw [sE_k]; unfold kSi kE
  cases c r with
  | ok b r1 => cases b <;> rfl
  | _ => rfl
def kR (o : Out D) : Fl := kE o fun d r => .rt d r
@[simp] theorem kR_ok {d : D} {r : Rho} : kR (.ok d r) = .rt d r := rfl
@[simp] theorem kR_ex {c : Nat} {r : Rho} : kR (.ex c r) = .ex c r := rfl
@[simp] theorem sRet_k {f : M D} {r : Rho} : sRet f r = kR (f r) := by
  unfold sRet; rw [sE_k]; rfl
def kD (o : Out D) : Fl := kE o fun _ r => .nx r
@[simp] theorem kD_ok {d : D} {r : Rho} : kD (.ok d r) = .nx r := rfl
@[simp] theorem kD_ex {c : Nat} {r : Rho} : kD (.ex c r) = .ex c r := rfl
@[simp] theorem sDrop_k {f : M D} {r : Rho} : sDrop f r = kD (f r) := by
  unfold sDrop; rw [sE_k]; rfl
@[simp] theorem sNx_k {r : Rho} : sNx r = .nx r := rfl
@[simp] theorem sEx_k {c : Nat} {r : Rho} : sEx c r = .ex c r := rfl
def fO (o : Option Rho) : Fl := match o with | some r => .nx r | none => .stk
@[simp] theorem fO_some {r : Rho} : fO (some r) = .nx r := rfl
def kAs (o : Out D) (b : D → Rho → Option Rho) : Fl := kE o fun d r => fO (b d r)
@[simp] theorem kAs_ok {d : D} {r : Rho} {b : D → Rho → Option Rho} : kAs (.ok d r) b = fO (b d r) := rfl
@[simp] theorem kAs_ex {c : Nat} {r : Rho} {b : D → Rho → Option Rho} : kAs (.ex c r) b = .ex c r := rfl
@[simp] theorem sAsg_k {f : M D} {b : D → Rho → Option Rho} {r : Rho} : sAsg f b r = kAs (f r) b := by
  unfold sAsg; rw [sE_k]; unfold kAs kE
  cases f r with
  | ok d r1 => dsimp only; cases b d r1 <;> rfl
  | _ => rfl
def kP2 (i j : Nat) (o : Out (List D)) : Fl := kE o fun ds r => match ds with | [a, b] => .nx ((r.set i (some a)).set j (some b)) | _ => .stk
@[simp] theorem kP2_ok {i j : Nat} {a b : D} {r : Rho} : kP2 i j (.ok [a, b] r) = .nx ((r.set i (some a)).set j (some b)) := rfl
@[simp] theorem sPar2_k {i j : Nat} {f : M (List D)} {r : Rho} : sPar2 i j f r = kP2 i j (f r) := by
  unfold sPar2; rw [sE_k]; rfl
def kP3 (i j l : Nat) (o : Out (List D)) : Fl := kE o fun ds r => match ds with | [a, b, c] => .nx (((r.set i (some a)).set j (some b)).set l (some c)) | _ => .stk
@[simp] theorem kP3_ok {i j l : Nat} {a b c : D} {r : Rho} : kP3 i j l (.ok [a, b, c] r) = .nx (((r.set i (some a)).set j (some b)).set l (some c)) := rfl
@[simp] theorem sPar3_k {i j l : Nat} {f : M (List D)} {r : Rho} : sPar3 i j l f r = kP3 i j l (f r) := by
  unfold sPar3; rw [sE_k]; rfl
def kAu2 (i : Nat) (g : D → D → Option D) (x : D) (o : Out D) : Fl := kE o fun y r => fO ((g x y).map fun z => r.set i (some z))
@[simp] theorem kAu2_ok {i : Nat} {g : D → D → Option D} {x y : D} {r : Rho} : kAu2 i g x (.ok y r) = fO ((g x y).map fun z => r.set i (some z)) := rfl
@[simp] theorem kAu2_ex {i : Nat} {g : D → D → Option D} {x : D} {c : Nat} {r : Rho} : kAu2 i g x (.ex c r) = .ex c r := rfl
def kAu (i : Nat) (g : D → D → Option D) (o : Out D) (f : M D) : Fl := kE o fun x r => kAu2 i g x (f r)
@[simp] theorem kAu_ok {i : Nat} {g : D → D → Option D} {x : D} {r : Rho} {f : M D} : kAu i g (.ok x r) f = kAu2 i g x (f r) := rfl
@[simp] theorem sAug_k {i : Nat} {g : D → D → Option D} {f : M D} {r : Rho} : sAug i g f r = kAu i g (kV r[i]? r) f := by
  unfold sAug
  cases r[i]? with
  | none => rfl
  | some o =>
    cases o with
    | none => rfl
    | some x =>
      show sE f _ r = kAu2 i g x (f r)
      rw [sE_k]
      unfold kAu2 kE
      cases f r with
      | ok y r1 => dsimp only; cases g x y <;> rfl
      | _ => rfl
def kFo (b : D → Rho → Option Rho) (body : Rho → Fl) (o : Out (List D)) : Fl := kE o fun ds r => forL b body ds r
@[simp] theorem kFo_ok {b : D → Rho → Option Rho} {body : Rho → Fl} {ds : List D} {r : Rho} : kFo b body (.ok ds r) = forL b body ds r := rfl
@[simp] theorem sFor_k {f : M (List D)} {b : D → Rho → Option Rho} {body : Rho → Fl} {r : Rho} : sFor f b body r = kFo b body (f r) := by
  unfold sFor; rw [sE_k]; rfl
@[simp] theorem lp_nx {r : Rho} {k : Rho → Fl} : lp (.nx r) k = k r := rfl
@[simp] theorem lp_rt {d : D} {r : Rho} {k : Rho → Fl} : lp (.rt d r) k = .rt d r := rfl
@[simp] theorem lp_ct {r : Rho} {k : Rho → Fl} : lp (.ct r) k = k r := rfl
@[simp] theorem lp_bk {r : Rho} {k : Rho → Fl} : lp (.bk r) k = .nx r := rfl
@[simp] theorem lp_ex {c : Nat} {r : Rho} {k : Rho → Fl} : lp (.ex c r) k = .ex c r := rfl
@[simp] theorem forL_nil {b : D → Rho → Option Rho} {body : Rho → Fl} {r : Rho} : forL b body [] r = .nx r := rfl
@[simp] theorem rF_nx {r : Rho} : rF (.nx r) = .ok .non := rfl
@[simp] theorem rF_rt {d : D} {r : Rho} : rF (.rt d r) = .ok d := rfl
@[simp] theorem rF_ex {c : Nat} {r : Rho} : rF (.ex c r) = .ex c := rfl
@[simp] theorem rF_ite {p : Prop} [Decidable p] {x y : Fl} : rF (if p then x else y) = if p then rF x else rF y := by split <;> rfl
@[simp] theorem bNm_k {i : Nat} {d : D} {r : Rho} : bNm i d r = some (r.set i (some d)) := rfl
@[simp] theorem bTup2 {i j : Nat} {a b : D} {r : Rho} : bTup 2 (bCons (bNm i) (bCons (bNm j) bNil)) (.tup [a, b]) r = some ((r.set i (some a)).set j (some b)) := rfl
@[simp] theorem bTup3 {i j l : Nat} {a b c : D} {r : Rho} : bTup 3 (bCons (bNm i) (bCons (bNm j) (bCons (bNm l) bNil))) (.tup [a, b, c]) r = some (((r.set i (some a)).set j (some b)).set l (some c)) := rfl
/-! list comprehensions: one name -/
def kLc (k : Kd) (v : Nat) (o : Out (List D)) (t : M Bool) (e : M D) : Out D := kB o fun ds r => fLc k [v] (fun r => .ok ds r) (bNm v) t e r
theorem fLc_k {k : Kd} {v : Nat} {f : M (List D)} {t : M Bool} {e : M D} {r : Rho} : fLc k [v] f (bNm v) t e r = kLc k v (f r) t e := by
  unfold kLc
  cases h : f r with
  | ok ds r1 => rw [kB_ok]; unfold fLc; rw [bnd_ok h]; rfl
  | stk => unfold fLc bnd; rw [h]; rfl
  | ex c r1 => unfold fLc bnd; rw [h]; rfl
/-! ### the operators at plain values -/
@[simp] theorem add_i {k : Kd} {i j : Int} : addD k (.int i) (.int j) = some (.int (i + j)) := rfl
@[simp] theorem aug_i {i j : Int} : augD (.int i) (.int j) = some (.int (i + j)) := rfl
theorem add_s {k : Kd} {s t : List Nat} (h : lim (s.length + t.length) = true) : addD k (.str s) (.str t) = some (.str (s ++ t)) := by
  show (if _ then _ else _) = _; rw [if_pos h]
@[simp] theorem add_s1 {k : Kd} {a b : Nat} : addD k (.str [a]) (.str [b]) = some (.str [a, b]) := rfl
@[simp] theorem sub_i {i j : Int} : subD (.int i) (.int j) = some (.int (i - j)) := rfl
theorem mod_i {i j : Int} (h : 0 < j) : modD (.int i) (.int j) = some (.int (i % j)) := by
  show (if _ then _ else _) = _; rw [if_pos (by simpa using h)]
theorem fdv_i {i j : Int} (h : 0 < j) (h2 : j < 1073741824) : fdvD (.int i) (.int j) = some (.int (i / j)) := by
  show (if _ then _ else _) = _; rw [if_pos (by simpa using ⟨h, h2⟩)]
@[simp] theorem lt_i {i j : Int} : ltD (.int i) (.int j) = some (.bl (decide (i < j))) := rfl
@[simp] theorem le_i {i j : Int} : leD (.int i) (.int j) = some (.bl (decide (i ≤ j))) := rfl
@[simp] theorem gt_i {i j : Int} : gtD (.int i) (.int j) = some (.bl (decide (j < i))) := rfl
@[simp] theorem ge_i {i j : Int} : geD (.int i) (.int j) = some (.bl (decide (j ≤ i))) := rfl
@[simp] theorem neg_i {i : Int} : negD (.int i) = some (.int (-i)) := rfl
@[simp] theorem abs_i {i : Int} : absD (.int i) = some (.int (if i < 0 then -i else i)) := rfl
@[simp] theorem int_i {i : Int} : intOfD (.int i) = some (.int i) := rfl
@[simp] theorem int_b {b : Bool} : intOfD (.bl b) = some (.int (if b then 1 else 0)) := rfl
@[simp] theorem max_i {i j : Int} : max2D (.int i) (.int j) = some (.int (max i j)) := by
  show some (D.int (if j > i then j else i)) = _
  congr 2; split <;> omega
@[simp] theorem min_i {i j : Int} : min2D (.int i) (.int j) = some (.int (min i j)) := by
  show some (D.int (if j < i then j else i)) = _
  congr 2; split <;> omega
@[simp] theorem len_l {ds : List D} : lenN (.lst ds) = some (.int ds.length) := rfl
@[simp] theorem len_t {ds : List D} : lenN (.tup ds) = some (.int ds.length) := rfl
theorem len_s {t : List Nat} (hl : lim t.length = true) : lenN (.str t) = some (.int t.length) := by
  show (if lim t.length = true then _ else _) = _
  rw [if_pos hl]
@[simp] theorem tuple_l {ds : List D} : tupleD (.lst ds) = some (.tup ds) := rfl
@[simp] theorem tuple_t {ds : List D} : tupleD (.tup ds) = some (.tup ds) := rfl
@[simp] theorem list_t {ds : List D} : listD .S (.tup ds) = some (.lst ds) := rfl
@[simp] theorem list_l {ds : List D} : listD .S (.lst ds) = some (.lst ds) := rfl
@[simp] theorem in_s {c : Nat} {z : List Nat} : inD false (.str [c]) (.str z) = some (.bl (decide (c ∈ z))) := rfl
@[simp] theorem nin_s {c : Nat} {z : List Nat} : inD true (.str [c]) (.str z) = some (.bl (!decide (c ∈ z))) := rfl
@[simp] theorem strO_s {s : List Nat} : strO (.str s) = some (s.map fun c => .str [c]) := rfl
@[simp] theorem lstO_l {ds : List D} : lstO (.lst ds) = some ds := rfl
@[simp] theorem tupO_t {ds : List D} : tupO (.tup ds) = some ds := rfl
theorem ixN_nat {n i : Nat} (h : i < n) : ixN n (i : Int) = some i := by
  unfold ixN
  rw [if_pos (by omega), if_pos (by omega)]
  simp
theorem atI_nat {α : Type} {xs : List α} {i : Nat} (h : i < xs.length) : atI xs (i : Int) = some xs[i] := by
  unfold atI
  rw [ixN_nat h]
  simp [h]
theorem ix_s {t : List Nat} {i : Nat} (hl : lim t.length = true) (h : i < t.length) : ixD (.str t) (.int i) = some (.str [t[i]]) := by
  show (if lim t.length = true then _ else _) = _
  rw [if_pos hl, atI_nat h]
  rfl
theorem ix_l {t : List D} {i : Nat} (h : i < t.length) : ixD (.lst t) (.int i) = some t[i] := atI_nat h
theorem ix_t {t : List D} {i : Nat} (h : i < t.length) : ixD (.tup t) (.int i) = some t[i] := atI_nat h
/-! equality -/
theorem okS_iff {s : List Nat} : okS s = true ↔ ∀ c ∈ s, c < 1114112 := by simp [okS]
@[simp] theorem okD_int {n : Nat} {i : Int} : okD n (.int i) = true := by cases n <;> simp [okD]
@[simp] theorem okD_bl {n : Nat} {i : Bool} : okD n (.bl i) = true := by cases n <;> simp [okD]
@[simp] theorem okD_non {n : Nat} : okD n .non = true := by cases n <;> simp [okD]
@[simp] theorem okD_str {n : Nat} {s : List Nat} : okD n (.str s) = okS s := by cases n <;> simp [okD]
theorem okDL_iff {n : Nat} : ∀ {ds : List D}, okDL n ds = true ↔ ∀ d ∈ ds, okD n d = true
  | [] => by cases n <;> simp [okDL]
  | d :: ds => by
    have : okDL n (d :: ds) = (okD n d && okDL n ds) := by cases n <;> simp [okDL]
    rw [this, Bool.and_eq_true, okDL_iff (ds := ds)]
    simp
theorem okD_lst {n : Nat} {ds : List D} : okD (n + 1) (.lst ds) = true ↔ ∀ d ∈ ds, okD n d = true := by
  rw [show okD (n + 1) (.lst ds) = okDL n ds by simp [okD], okDL_iff]
theorem okD_tup {n : Nat} {ds : List D} : okD (n + 1) (.tup ds) = true ↔ ∀ d ∈ ds, okD n d = true := by
  rw [show okD (n + 1) (.tup ds) = okDL n ds by simp [okD], okDL_iff]
theorem eqbL_refl {n : Nat} (h : ∀ d : D, okD n d = true → eqb d d = true) : ∀ ds : List D, (∀ d ∈ ds, okD n d = true) → eqbL ds ds = true
  | [], _ => by simp [eqbL]
  | d :: ds, hd => by
    simp only [eqbL, Bool.and_eq_true]
    exact ⟨h d (hd d (by simp)), eqbL_refl h ds fun d h => hd d (by simp [h])⟩
theorem eqb_refl : ∀ (n : Nat) (d : D), okD n d = true → eqb d d = true
  | 0, d, h => by
    cases d <;> first | (simp [eqb]; done) | (simp [okD] at h; done)
  | n + 1, d, h => by
    cases d with
    | lst xs => simp only [eqb]; exact eqbL_refl (eqb_refl n) xs (okD_lst.mp h)
    | tup xs => simp only [eqb]; exact eqbL_refl (eqb_refl n) xs (okD_tup.mp h)
    | _ => first | (simp [eqb]; done) | (simp [okD] at h; done)
theorem eq_self {d : D} (h : okD 60 d = true) : eqD d d = some (.bl true) := by
  unfold eqD; rw [h, eqb_refl 60 d h]; rfl
theorem ne_self {d : D} (h : okD 60 d = true) : neD d d = some (.bl false) := by
  unfold neD; rw [h, eqb_refl 60 d h]; rfl
theorem ne_same {d e : D} (h : okD 60 d = true) (he : d = e) : neD d e = some (.bl false) := he ▸ ne_self h
@[simp] theorem eq_i {i j : Int} : eqD (.int i) (.int j) = some (.bl (decide (i = j))) := by simp [eqD, eqb]
@[simp] theorem ne_i {i j : Int} : neD (.int i) (.int j) = some (.bl (!decide (i = j))) := by simp [neD, eqb]
theorem eq_s {s t : List Nat} (hs : okS s = true) (ht : okS t = true) : eqD (.str s) (.str t) = some (.bl (decide (s = t))) := by simp [eqD, eqb, hs, ht]
theorem ne_s {s t : List Nat} (hs : okS s = true) (ht : okS t = true) : neD (.str s) (.str t) = some (.bl (!decide (s = t))) := by simp [neD, eqb, hs, ht]
theorem eqbL_str : ∀ {ss ts : List (List Nat)}, eqbL (ss.map .str) (ts.map .str) = decide (ss = ts)
  | [], [] => by simp [eqbL]
  | [], _ :: _ => by simp [eqbL]
  | _ :: _, [] => by simp [eqbL]
  | s :: ss, t :: ts => by simp [eqbL, eqb, eqbL_str (ss := ss)]
theorem eqbL_int : ∀ {ss ts : List Int}, eqbL (ss.map .int) (ts.map .int) = decide (ss = ts)
  | [], [] => by simp [eqbL]
  | [], _ :: _ => by simp [eqbL]
  | _ :: _, [] => by simp [eqbL]
  | s :: ss, t :: ts => by simp [eqbL, eqb, eqbL_int (ss := ss)]
theorem eq_nil {ds : List D} (h : ∀ d ∈ ds, okD 59 d = true) : eqD (.lst ds) (.lst []) = some (.bl ds.isEmpty) := by
  unfold eqD
  rw [okD_lst.mpr h]
  cases ds <;> simp [okD, okDL, eqb, eqbL]
theorem ne_nil {ds : List D} (h : ∀ d ∈ ds, okD 59 d = true) : neD (.lst ds) (.lst []) = some (.bl (!ds.isEmpty)) := by
  unfold neD
  rw [okD_lst.mpr h]
  cases ds <;> simp [okD, okDL, eqb, eqbL]
end
end Mir

set_option Elab.async false
set_option linter.all false
set_option maxRecDepth 100000
set_option maxHeartbeats 1000000
namespace Mir
open PySem L2
theorem lim_of {n : Nat} (h : n ≤ 100000) : lim n = true := by simpa [lim] using h
/-! ranges -/
theorem rng0 (n : Nat) : rngD 0 n = (List.range n).map fun (j : Nat) => D.int (j : Int) := by
  unfold rngD; simp
theorem rg1 {n : Nat} (h : n ≤ 100000) : rg1D [.int (n : Int)] = some ((List.range n).map fun (j : Nat) => D.int (j : Int)) := by
  have ho : okI (n : Int) = true := by unfold okI; exact decide_eq_true (by omega)
  simp only [rg1D, ho, if_true, Int.toNat_natCast, rng0]
theorem rg2 {a n : Nat} (h : n ≤ 100000) (ha : a ≤ 100000) : rg2D [.int (a : Int), .int (n : Int)] = some ((List.range' a (n - a)).map fun (j : Nat) => D.int (j : Int)) := by
  have ho : okI (n : Int) = true := by unfold okI; exact decide_eq_true (by omega)
  have ho2 : okI (a : Int) = true := by unfold okI; exact decide_eq_true (by omega)
  simp only [rg2D, ho, ho2, Bool.and_true, if_true]
  have : ((n : Int) - (a : Int)).toNat = n - a := by omega
  rw [this]
  unfold rngD
  rw [List.range'_eq_map_range, List.map_map]
  congr 1
/-! comprehensions over what a list of things stands for -/
theorem fLc_of {α : Type} {k : Kd} {v : Nat} {f : M (List D)} {t : M Bool} {e : M D} {r : Rho} {g : α → D} {l : List α} {pt : α → Bool} {pe : α → D} (hi : f r = .ok (l.map g) r) (ht : ∀ a ∈ l, t (r.set v (some (g a))) = .ok (pt a) (r.set v (some (g a)))) (he : ∀ a ∈ l, pt a = true → e (r.set v (some (g a))) = .ok (pe a) (r.set v (some (g a))))
    (hl : l.length ≤ 100000) (hk : ∀ a ∈ l, pt a = true → k = .F → leafy (pe a) = true) : fLc k [v] f (bNm v) t e r = .ok (.lst ((l.filter pt).map pe)) r := by
  have hw : ∀ x : Option D, (r.set v x).set v none = r.set v none := fun x => by simp
  have key : ∀ l : List α, (∀ a ∈ l, t (r.set v (some (g a))) = .ok (pt a) (r.set v (some (g a)))) → (∀ a ∈ l, pt a = true → e (r.set v (some (g a))) = .ok (pe a) (r.set v (some (g a)))) → lcL [v] (bNm v) t e (l.map g) (r.set v none) = some ((l.filter pt).map pe, r.set v none) := by
    intro l ht he
    induction l with
    | nil => rfl
    | cons a l ih =>
      have ih := ih (fun a h => ht a (by simp [h])) (fun a h => he a (by simp [h]))
      rw [List.map_cons]
      unfold lcL
      rw [show bNm v (g a) (r.set v none) = some (r.set v (some (g a))) by show some _ = _; simp]
      show (match t (r.set v (some (g a))) with | _ => _) = _
      rw [ht a (by simp)]
      cases hp : pt a with
      | true =>
        show (match e (r.set v (some (g a))) with | _ => _) = _
        rw [he a (by simp) hp]
        show (lcL [v] (bNm v) t e (l.map g) ((r.set v (some (g a))).set v none)).map _ = _
        rw [hw, ih]
        simp [hp]
      | false =>
        show lcL [v] (bNm v) t e (l.map g) ((r.set v (some (g a))).set v none) = _
        rw [hw, ih]
        simp [hp]
  unfold fLc
  rw [bnd_ok hi]
  have kk : lcL [v] (bNm v) t e (l.map g) (wipeR r [v]) = some ((l.filter pt).map pe, wipeR r [v]) := key l ht he
  simp only [kk]
  have hl' : lim ((l.filter pt).map pe).length = true := lim_of (by rw [List.length_map]; exact Nat.le_trans (List.length_filter_le _ _) hl)
  have hf : fitK k ((l.filter pt).map pe) = true := by
    unfold fitK
    split
    · simp only [List.all_eq_true, List.mem_map, List.mem_filter]
      rintro d ⟨a, ⟨h1, h2⟩, rfl⟩
      exact hk a h1 h2 rfl
    · rfl
  simp only [hl', hf, Bool.and_true, if_true]
  rw [unw_wipe]
/-- no test -/
theorem fLc_all {α : Type} {k : Kd} {v : Nat} {f : M (List D)} {e : M D} {r : Rho} {g : α → D} {l : List α} {pe : α → D} (hi : f r = .ok (l.map g) r) (he : ∀ a ∈ l, e (r.set v (some (g a))) = .ok (pe a) (r.set v (some (g a))))
    (hl : l.length ≤ 100000) (hk : ∀ a ∈ l, k = .F → leafy (pe a) = true) : fLc k [v] f (bNm v) fYes e r = .ok (.lst (l.map pe)) r := by
  have := fLc_of (t := fYes) (pt := fun _ => true) hi (fun _ _ => rfl) (fun a h _ => he a h) hl (fun a h _ => hk a h)
  rw [this, List.filter_eq_self.mpr (fun _ _ => rfl)]
/-! slices -/
theorem cutL_nat {α : Type} {xs : List α} {a b : Nat} (hb : b ≤ xs.length) : cutL xs (some (a : Int)) (some (b : Int)) = (xs.drop a).take (b - a) := by
  unfold cutL
  rw [HT.sIx_nat, HT.sIx_nat, Nat.min_eq_left hb]
  by_cases h : a ≤ xs.length
  · rw [Nat.min_eq_left h]
  · rw [Nat.min_eq_right (by omega), List.drop_length, List.drop_eq_nil_of_le (by omega)]; simp
theorem cutL_to {α : Type} {xs : List α} {b : Nat} (hb : b ≤ xs.length) : cutL xs none (some (b : Int)) = xs.take b := by
  unfold cutL
  rw [HT.sIx_none, HT.sIx_nat, Nat.min_eq_left hb]; simp
theorem cutL_from {α : Type} {xs : List α} {a : Nat} : cutL xs (some (a : Int)) none = xs.drop a := by
  unfold cutL
  rw [HT.sIx_none, HT.sIx_nat]
  by_cases h : a ≤ xs.length
  · rw [Nat.min_eq_left h, List.take_of_length_le (by simp)]
  · rw [Nat.min_eq_right (by omega), List.drop_length, List.drop_eq_nil_of_le (by omega)]; simp
theorem cutL_m1 {α : Type} {xs : List α} : cutL xs none (some (-1)) = xs.dropLast := by
  unfold cutL
  rw [HT.sIx_none]
  show (xs.drop 0).take ((if (-1 : Int) < 0 then ((-1 : Int) + (xs.length : Int)).toNat else min (-1 : Int).toNat xs.length) - 0) = _
  rw [if_pos (by decide), List.dropLast_eq_take, List.drop_zero]
  congr 1; omega
theorem atI_m1 {α : Type} {xs : List α} {x : α} : atI (xs ++ [x]) (-1) = some x := by
  unfold atI ixN
  have e : ((-1 : Int) + ((xs.length : Int) + 1)).toNat = xs.length := by omega
  have e2 : (1 : Int) ≤ (xs.length : Int) + 1 := by omega
  simp [e, e2]
theorem sl_s {k : Kd} {t : List Nat} {lo hi : Option Int} (hl : lim t.length = true) : sliceD k (.str t) lo hi = some (.str (cutL t lo hi)) := by
  show (if lim t.length = true then _ else _) = _
  rw [if_pos hl]
@[simp] theorem sl_lS {t : List D} {lo hi : Option Int} : sliceD .S (.lst t) lo hi = some (.lst (cutL t lo hi)) := rfl
@[simp] theorem sl_tS {k : Kd} {t : List D} {lo hi : Option Int} : sliceD k (.tup t) lo hi = some (.tup (cutL t lo hi)) := rfl
@[simp] theorem sl_cS {t : List D} {lo hi : Option Int} : sliceD .S (.scr t) lo hi = some (.lst (cutL t lo hi)) := rfl
/-! most, least, sum -/
theorem intsD_map' {α : Type} (f : α → Int) : ∀ l : List α, intsD (l.map fun j => D.int (f j)) = some (l.map f)
  | [] => rfl
  | a :: l => by simp [intsD, intsD_map' f l]
theorem max_of {α : Type} {f : α → Int} {l : List α} {a : α} (ha : a ∈ l) (h : ∀ b ∈ l, f b ≤ f a) : maxD (.lst (l.map fun j => D.int (f j))) = some (.int (f a)) := by
  show (intsD _).bind _ = _
  rw [intsD_map' f l]
  cases l with
  | nil => cases ha
  | cons b l =>
    show some (D.int (maxI (f b) (l.map f))) = _
    obtain ⟨h1, h2, h3⟩ := maxI_ge (l.map f) (f b)
    congr 2
    refine Int.le_antisymm ?_ ?_
    · rcases h3 with h3 | h3
      · rw [h3]; exact h b (by simp)
      · obtain ⟨c, hc, e⟩ := List.mem_map.mp h3
        rw [← e]; exact h c (by simp [hc])
    · rcases List.mem_cons.mp ha with rfl | ha
      · exact h1
      · exact h2 _ (List.mem_map_of_mem ha)
theorem min_of {α : Type} {f : α → Int} {l : List α} {a : α} (ha : a ∈ l) (h : ∀ b ∈ l, f a ≤ f b) : minD (.lst (l.map fun j => D.int (f j))) = some (.int (f a)) := by
  show (intsD _).bind _ = _
  rw [intsD_map' f l]
  cases l with
  | nil => cases ha
  | cons b l =>
    show some (D.int (minI (f b) (l.map f))) = _
    obtain ⟨h1, h2, h3⟩ := minI_le (l.map f) (f b)
    congr 2
    refine Int.le_antisymm ?_ ?_
    · rcases List.mem_cons.mp ha with rfl | ha
      · exact h1
      · exact h2 _ (List.mem_map_of_mem ha)
    · rcases h3 with h3 | h3
      · rw [h3]; exact h b (by simp)
      · obtain ⟨c, hc, e⟩ := List.mem_map.mp h3
        rw [← e]; exact h c (by simp [hc])
theorem sum_of {α : Type} {f : α → Int} {l : List α} : sumD (.lst (l.map fun j => D.int (f j))) = some (.int (l.map f).sum) := by
  show (intsD _).map _ = _
  rw [intsD_map' f l]
  show some (D.int (sumI (l.map f))) = _
  rw [sumI_eq]
/-! owned slots -/
def kAp (i : Nat) (o : Out D) : Fl := kE o fun d r => match r[i]? with
  | some (some (.lst ds)) => if lim (ds.length + 1) && (ds.all leafy && leafy d) then .nx (r.set i (some (.lst (ds ++ [d])))) else .stk
  | _ => .stk
theorem sApp_k {i : Nat} {f : M D} {r : Rho} {ds : List D} (h : r[i]? = some (some (.lst ds))) : sApp i f r = kAp i (f r) := by
  unfold sApp
  rw [if_pos (by unfold isLst; rw [h]), sE_k]
  rfl
theorem kAp_ok {i : Nat} {r : Rho} {ds : List D} {d : D} (h : r[i]? = some (some (.lst ds))) (hl : ds.length < 100000) (hk : ds.all leafy = true) (hd : leafy d = true) : kAp i (.ok d r) = .nx (r.set i (some (.lst (ds ++ [d])))) := by
  unfold kAp
  rw [kE_ok]
  simp only [h]
  rw [lim_of (by omega), hk, hd]
  rfl
theorem ownC_ok {i : Nat} {r : Rho} {ds : List D} (h : r[i]? = some (some (.lst ds))) (hk : ds.all leafy = true) : fOwnC i r = .ok (.lst ds) r := by
  unfold fOwnC; simp [h, hk]
theorem sPut_ok {i : Nat} {fj f : M D} {r r1 r2 : Rho} {d : D} {ds : List D} {n : Nat} (hf : f r = .ok d r1) (hj : fj r1 = .ok (.int (n : Int)) r2) (h1 : r1[i]? = some (some (.lst ds))) (h2 : r2[i]? = some (some (.lst ds))) (hn : n < ds.length) (hk : ds.all leafy = true) (hd : leafy d = true) : sPut i fj f r = .nx (r2.set i (some (.lst (ds.set n d)))) := by
  unfold sPut
  rw [sE_ok hf, if_pos (by unfold isLst; rw [h1]), sE_ok hj]
  simp only [h2]
  rw [ixN_nat hn, hk, hd]
  rfl
theorem leafy_ints : ∀ ns : List Int, (ns.map D.int).all leafy = true
  | [] => rfl
  | n :: ns => by simp [leafy]
end Mir

namespace Law
open PySem L2 Mir
/-! printed by gen.py -/
def top (i : Nat) : Stmt := PySem.Challenge.pw_editstack_k01_places_in_texts.main.body.getD i (.Pass ⟨0, 0, 0, 0⟩)
def g_LETTERS : List Nat := [97, 98, 99, 100, 101, 102, 103, 104, 105, 106, 107, 108, 109, 110, 111, 112, 113, 114, 115, 116, 117, 118, 119, 120, 121, 122, 65, 66, 67, 68, 69, 70, 71, 72, 73, 74, 75, 76, 77, 78, 79, 80, 81, 82, 83, 84, 85, 86, 87, 88, 89, 90, 48, 49, 50, 51, 52, 53, 54, 55, 56, 57, 95]
abbrev s_rows_of : Stmt := top 6
abbrev s_starts_of : Stmt := top 7
abbrev s_check_at : Stmt := top 8
abbrev s_row_and_column : Stmt := top 9
abbrev s_at_of : Stmt := top 10
abbrev s_kind_at : Stmt := top 11
abbrev s_word_at : Stmt := top 12
abbrev s_next_word : Stmt := top 13
abbrev s_last_word : Stmt := top 14
abbrev s_up_or_down : Stmt := top 15
abbrev s_paragraph : Stmt := top 16
abbrev s_counted : Stmt := top 17
abbrev s__law_dice : Stmt := top 19
abbrev s__law_roll : Stmt := top 20
abbrev s__law_rounds : Stmt := top 21
abbrev s__law_told : Stmt := top 22
abbrev s__law_text : Stmt := top 23
abbrev s__law_kind : Stmt := top 24
abbrev s__law_rows : Stmt := top 25
abbrev s__law_bare : Stmt := top 26
abbrev s__law_plain : Stmt := top 27
abbrev s_law : Stmt := top 28
structure Txt (K : PySem.W.Frag) (mg : Str → Option Value) (T : Tb) (a : Nat → Addr) (d : Nat → FuncData) (tk : Nat → Tok) (tc tp : Nat → Addr) : Prop where
  frows_of : FnAt K mg "rows_of" s_rows_of ["text"] (a 0) (d 0)
  fstarts_of : FnAt K mg "starts_of" s_starts_of ["text"] (a 1) (d 1)
  fcheck_at : FnAt K mg "check_at" s_check_at ["text", "at"] (a 2) (d 2)
  frow_and_column : FnAt K mg "row_and_column" s_row_and_column ["text", "at"] (a 3) (d 3)
  fat_of : FnAt K mg "at_of" s_at_of ["text", "row", "column"] (a 4) (d 4)
  fkind_at : FnAt K mg "kind_at" s_kind_at ["text", "at"] (a 5) (d 5)
  fword_at : FnAt K mg "word_at" s_word_at ["text", "at"] (a 6) (d 6)
  fnext_word : FnAt K mg "next_word" s_next_word ["text", "at"] (a 7) (d 7)
  flast_word : FnAt K mg "last_word" s_last_word ["text", "at"] (a 8) (d 8)
  fup_or_down : FnAt K mg "up_or_down" s_up_or_down ["text", "at", "rows", "wish"] (a 9) (d 9)
  fparagraph : FnAt K mg "paragraph" s_paragraph ["text", "at"] (a 10) (d 10)
  fcounted : FnAt K mg "counted" s_counted ["text"] (a 11) (d 11)
  f_law_dice : FnAt K mg "_law_dice" s__law_dice ["cell"] (a 12) (d 12)
  f_law_roll : FnAt K mg "_law_roll" s__law_roll ["dice", "many"] (a 13) (d 13)
  f_law_rounds : FnAt K mg "_law_rounds" s__law_rounds ["script", "most"] (a 14) (d 14)
  f_law_told : FnAt K mg "_law_told" s__law_told ["what"] (a 15) (d 15)
  f_law_text : FnAt K mg "_law_text" s__law_text ["dice", "most"] (a 16) (d 16)
  f_law_kind : FnAt K mg "_law_kind" s__law_kind ["sign"] (a 17) (d 17)
  f_law_rows : FnAt K mg "_law_rows" s__law_rows ["text"] (a 18) (d 18)
  f_law_bare : FnAt K mg "_law_bare" s__law_bare ["row"] (a 19) (d 19)
  f_law_plain : FnAt K mg "_law_plain" s__law_plain [] (a 20) (d 20)
  flaw : FnAt K mg "law" s_law ["script"] (a 21) (d 21)
  gEND : mg "END" = some (.str "\n" (tk 0))
  gLETTERS : mg "LETTERS" = some (.str "abcdefghijklmnopqrstuvwxyzABCDEFGHIJKLMNOPQRSTUVWXYZ0123456789_" (tk 1))
  n_abs : mg "abs" = none
  n_enumerate : mg "enumerate" = none
  n_int : mg "int" = none
  n_len : mg "len" = none
  n_list : mg "list" = none
  n_max : mg "max" = none
  n_min : mg "min" = none
  n_range : mg "range" = none
  n_sum : mg "sum" = none
  n_tuple : mg "tuple" = none
  ePlaceError : ExAt K mg "PlaceError" (T.exc 0)
  ccounted : FunC K "counted" "counted" s_counted (a 11) (d 11) (tc 0)
  mt0 : (tp 0, ((("counted" : Str) ++ ".<locals>.") ++ ("<genexpr>" : Str))) ∈ T.tabs
  ut0 : ∀ p ∈ T.tabs, p.1 = tp 0 → p.2 = ((("counted" : Str) ++ ".<locals>.") ++ ("<genexpr>" : Str))
  c_law_plain : FunC K "_law_plain" "_law_plain" s__law_plain (a 20) (d 20) (tc 1)
  mt1 : (tp 1, ((("_law_plain" : Str) ++ ".<locals>.") ++ ("<lambda>" : Str))) ∈ T.tabs
  ut1 : ∀ p ∈ T.tabs, p.1 = tp 1 → p.2 = ((("_law_plain" : Str) ++ ".<locals>.") ++ ("<lambda>" : Str))
  claw : FunC K "law" "law" s_law (a 21) (d 21) (tc 2)
  mt2 : (tp 2, ((("law" : Str) ++ ".<locals>.") ++ ("<lambda>" : Str))) ∈ T.tabs
  ut2 : ∀ p ∈ T.tabs, p.1 = tp 2 → p.2 = ((("law" : Str) ++ ".<locals>.") ++ ("<lambda>" : Str))
def okT : Nat → Bool := fun c => decide (c < 1)
section
variable {P : Program} {w : World} {K : PySem.W.Frag} {mg : Str → Option Value} {base : Heap} {T : Tb} {a : Nat → Addr} {d : Nat → FuncData} {tk : Nat → Tok} {tc tp : Nat → Addr}
theorem told_ok (Z : Txt K mg T a d tk tc tp) : ToldF K mg "_law_told" "what" "PlaceError" (a 15) (T.exc 0) := by
  refine ⟨Z.f_law_told.g, Z.f_law_told.F.kp, ?_⟩
  obtain ⟨oc, od, kV, doc, pm, an, cdv, ct, osl, e, lk, hcd⟩ := Z.f_law_told.F.ex
  have hb := Z.f_law_told.b
  rw [e] at lk hb
  refine ⟨oc, od, _, _, _, _, kV, doc, pm, an, cdv, ct, osl, lk, hcd, hb, ⟨rfl, rfl, rfl, by decide +kernel, rfl, by decide +kernel, by decide +kernel⟩, .inl rfl, fun X q hK hm => ?_⟩
  subst hK hm
  exact LamX.told_gives (e := "PlaceError") rfl Z.ePlaceError.g (by decide) fun _ => rfl
theorem ex_ok (Z : Txt K mg T a d tk tc tp) : ∀ c, okT c = true → PySem.W.exmOne K (.ref (T.exc c)) (.ref (T.exc 0)) = some true := by
  intro c h
  have h : c < 1 := by simpa [okT] using h
  have e : c = 0 := by omega
  subst e
  exact Z.ePlaceError.e
def b_rows_of : Rho → Fl := sRet (fn1 tupleD (fM1 splD (fVar 0) (fC (.str [10]))))
def N_rows_of : List Str := ["text"]
def m_rows_of : List D → Out D := runB 1 b_rows_of
theorem sc_rows_of : FnScope N_rows_of ["text"] (defScope s_rows_of) := ⟨rfl, rfl, rfl, by decide +kernel, rfl, by decide +kernel, by decide +kernel⟩
theorem ok_rows_of (Z : Txt K mg T a d tk tc tp) (B : ∀ i, LamX.TabB base mg (tc i) (tp i)) : FnOk P w K mg base (L2.CX P w) 1 (a 0) (d 0) ["text"] (spD K T N_rows_of 1 [0] .S m_rows_of) := by
  have hN := sc_rows_of.nd
  refine fn_D Z.frows_of.F sc_rows_of rfl (.inl rfl) fun cdv A outer s H E hr => ?_
  exact dss_one (ds_ret (de_tuplec Z.n_tuple (de_split (de_var (i := 0)) (de_gstr (l := [10]) Z.gEND))))
def b_starts_of : Rho → Fl := sS (sSet 1 (fLst .F (fCons (fC (.int 0)) (fNil)))) (sS (sFor (fIt (fun d => (strO d).map (enumL 0)) (fVar 0)) (bTup 2 (bCons (bNm 2) (bCons (bNm 3) (bNil)))) (sIf (fB (m2 eqD (fVar 3) (fC (.str [10])))) (sApp 1 (m2 (addD .S) (fVar 2) (fC (.int 1)))) (sNx))) (sRet (fn1 tupleD (fOwnC 1))))
def N_starts_of : List Str := ["text", "found", "place", "sign"]
def m_starts_of : List D → Out D := runB 4 b_starts_of
theorem sc_starts_of : FnScope N_starts_of ["text"] (defScope s_starts_of) := ⟨rfl, rfl, rfl, by decide +kernel, rfl, by decide +kernel, by decide +kernel⟩
theorem ok_starts_of (Z : Txt K mg T a d tk tc tp) (B : ∀ i, LamX.TabB base mg (tc i) (tp i)) : FnOk P w K mg base (L2.CX P w) 1 (a 1) (d 1) ["text"] (spD K T N_starts_of 1 [0, 1, 0, 0] .S m_starts_of) := by
  have hN := sc_starts_of.nd
  refine fn_D Z.fstarts_of.F sc_starts_of rfl (.inl rfl) fun cdv A outer s H E hr => ?_
  exact dss_cons (ds_setF (i := 1) (de_lst (.inr rfl) (da_cons (de_int) (da_nil))) (hN := hN)) (dss_cons (ds_for (L2.passes_of rfl) (di_enumX (de_var (i := 0)) Z.n_enumerate) (dg_tup (n := 2) (dg_cons (dg_nm (i := 2) hN) (dg_cons (dg_nm (i := 3) hN) (dg_nil)))) (dss_one (ds_if (dt_cmp (op_eqD (room64 hr)) og_eq (de_var (i := 3)) (de_gstr (l := [10]) Z.gEND)) (dss_one (ds_app (i := 1) (de_op op_addD (og_add (.inl rfl)) (de_var (i := 2)) (de_int)))) (dss_nil)))) (dss_one (ds_ret (de_tuplec Z.n_tuple (de_ownC (i := 1))))))
def b_check_at : Rho → Fl := sIf (fNot (fB (fChain leD leD (fC (.int 0)) (fVar 1) (fn1 lenN (fVar 0))))) (sEx 0) (sNx)
def N_check_at : List Str := ["text", "at"]
def m_check_at : List D → Out D := runB 2 b_check_at
theorem sc_check_at : FnScope N_check_at ["text", "at"] (defScope s_check_at) := ⟨rfl, rfl, rfl, by decide +kernel, rfl, by decide +kernel, by decide +kernel⟩
theorem ok_check_at (Z : Txt K mg T a d tk tc tp) (B : ∀ i, LamX.TabB base mg (tc i) (tp i)) : FnOk P w K mg base (L2.CX P w) 1 (a 2) (d 2) ["text", "at"] (spD K T N_check_at 2 [0, 0] .S m_check_at) := by
  have hN := sc_check_at.nd
  refine fn_D Z.fcheck_at.F sc_check_at rfl (.inl rfl) fun cdv A outer s H E hr => ?_
  exact dss_one (ds_if (dt_not (dt_chain orD_le orD_le og_le og_le (de_int) (de_var (i := 1)) (de_len Z.n_len (de_var (i := 0))))) (dss_one (ds_raise (c := 0) (mk_raise Z.ePlaceError))) (dss_nil))
def b_row_and_column : Rho → Fl := sS (sDrop (fCall [none, none] m_check_at (fCons (fVar 0) (fCons (fVar 1) (fNil))))) (sS (sSet 2 (fM1 cntD (fSl .S (fVar 0) (fNo) (fPart (fVar 1))) (fC (.str [10])))) (sRet (fTup (fCons (fVar 2) (fCons (m2 subD (fVar 1) (m2 ixD (fCall [none] m_starts_of (fCons (fVar 0) (fNil))) (fVar 2))) (fNil))))))
def N_row_and_column : List Str := ["text", "at", "row"]
def m_row_and_column : List D → Out D := runB 3 b_row_and_column
theorem sc_row_and_column : FnScope N_row_and_column ["text", "at"] (defScope s_row_and_column) := ⟨rfl, rfl, rfl, by decide +kernel, rfl, by decide +kernel, by decide +kernel⟩
theorem ok_row_and_column (Z : Txt K mg T a d tk tc tp) (B : ∀ i, LamX.TabB base mg (tc i) (tp i)) : FnOk P w K mg base (L2.CX P w) 2 (a 3) (d 3) ["text", "at"] (spD K T N_row_and_column 2 [0, 0, 0] .S m_row_and_column) := by
  have OK_check_at := ok_check_at (P := P) (w := w) (base := base) Z B
  have OK_starts_of := ok_starts_of (P := P) (w := w) (base := base) Z B
  have hN := sc_row_and_column.nd
  refine fn_D Z.frow_and_column.F sc_row_and_column rfl (.inl rfl) fun cdv A outer s H E hr => ?_
  exact dss_cons (ds_expr (de_call OK_check_at (hr.mono (by decide)) Z.fcheck_at.g Z.fcheck_at.F.kp Z.fcheck_at.b (dr_val (de_var (i := 0)) (dr_val (de_var (i := 1)) (dr_nil))))) (dss_cons (ds_set (i := 2) (de_count (de_sl (.inl rfl) (.inl rfl) (de_var (i := 0)) (do_no) (do_some (de_var (i := 1)))) (de_gstr (l := [10]) Z.gEND)) (hN := hN)) (dss_one (ds_ret (de_tup (da_cons (de_var (i := 2)) (da_cons (de_op op_sub og_sub (de_var (i := 1)) (de_ix (de_call OK_starts_of (hr.mono (by decide)) Z.fstarts_of.g Z.fstarts_of.F.kp Z.fstarts_of.b (dr_val (de_var (i := 0)) (dr_nil))) (de_var (i := 2)))) (da_nil)))))))
def b_at_of : Rho → Fl := sS (sSet 3 (fCall [none] m_rows_of (fCons (fVar 0) (fNil)))) (sS (sIf (fOr (fNot (fB (fChain leD ltD (fC (.int 0)) (fVar 1) (fn1 lenN (fVar 3))))) (fB (m2 ltD (fVar 2) (fC (.int 0))))) (sEx 0) (sNx)) (sRet (m2 (addD .S) (m2 ixD (fCall [none] m_starts_of (fCons (fVar 0) (fNil))) (fVar 1)) (m2 min2D (fVar 2) (fn1 lenN (m2 ixD (fVar 3) (fVar 1)))))))
def N_at_of : List Str := ["text", "row", "column", "rows"]
def m_at_of : List D → Out D := runB 4 b_at_of
theorem sc_at_of : FnScope N_at_of ["text", "row", "column"] (defScope s_at_of) := ⟨rfl, rfl, rfl, by decide +kernel, rfl, by decide +kernel, by decide +kernel⟩
theorem ok_at_of (Z : Txt K mg T a d tk tc tp) (B : ∀ i, LamX.TabB base mg (tc i) (tp i)) : FnOk P w K mg base (L2.CX P w) 2 (a 4) (d 4) ["text", "row", "column"] (spD K T N_at_of 3 [0, 0, 0, 0] .S m_at_of) := by
  have OK_rows_of := ok_rows_of (P := P) (w := w) (base := base) Z B
  have OK_starts_of := ok_starts_of (P := P) (w := w) (base := base) Z B
  have hN := sc_at_of.nd
  refine fn_D Z.fat_of.F sc_at_of rfl (.inl rfl) fun cdv A outer s H E hr => ?_
  exact dss_cons (ds_set (i := 3) (de_call OK_rows_of (hr.mono (by decide)) Z.frows_of.g Z.frows_of.F.kp Z.frows_of.b (dr_val (de_var (i := 0)) (dr_nil))) (hN := hN)) (dss_cons (ds_if (DW.dt (dw_or (dt_not (dt_chain orD_le orD_lt og_le og_lt (de_int) (de_var (i := 1)) (de_len Z.n_len (de_var (i := 3))))) (dw_or1 (dt_cmp orD_lt og_lt (de_var (i := 2)) (de_int))))) (dss_one (ds_raise (c := 0) (mk_raise Z.ePlaceError))) (dss_nil)) (dss_one (ds_ret (de_op op_addD (og_add (.inl rfl)) (de_ix (de_call OK_starts_of (hr.mono (by decide)) Z.fstarts_of.g Z.fstarts_of.F.kp Z.fstarts_of.b (dr_val (de_var (i := 0)) (dr_nil))) (de_var (i := 1))) (de_min2 Z.n_min (de_var (i := 2)) (de_len Z.n_len (de_ix (de_var (i := 3)) (de_var (i := 1)))))))))
def b_kind_at : Rho → Fl := sS (sIf (fNot (fB (fChain leD ltD (fC (.int 0)) (fVar 1) (fn1 lenN (fVar 0))))) (sEx 0) (sNx)) (sS (sIf (fB (m2 (inD false) (m2 ixD (fVar 0) (fVar 1)) (fC (.str g_LETTERS)))) (sRet (fC (.str [119, 111, 114, 100]))) (sNx)) (sRet (fIf (fB (m2 (inD false) (m2 ixD (fVar 0) (fVar 1)) (m2 (addD .S) (fC (.str [32])) (fC (.str [10]))))) (fC (.str [115, 112, 97, 99, 101])) (fC (.str [115, 105, 103, 110])))))
def N_kind_at : List Str := ["text", "at"]
def m_kind_at : List D → Out D := runB 2 b_kind_at
theorem sc_kind_at : FnScope N_kind_at ["text", "at"] (defScope s_kind_at) := ⟨rfl, rfl, rfl, by decide +kernel, rfl, by decide +kernel, by decide +kernel⟩
theorem ok_kind_at (Z : Txt K mg T a d tk tc tp) (B : ∀ i, LamX.TabB base mg (tc i) (tp i)) : FnOk P w K mg base (L2.CX P w) 1 (a 5) (d 5) ["text", "at"] (spD K T N_kind_at 2 [0, 0] .S m_kind_at) := by
  have hN := sc_kind_at.nd
  refine fn_D Z.fkind_at.F sc_kind_at rfl (.inl rfl) fun cdv A outer s H E hr => ?_
  exact dss_cons (ds_if (dt_not (dt_chain orD_le orD_lt og_le og_lt (de_int) (de_var (i := 1)) (de_len Z.n_len (de_var (i := 0))))) (dss_one (ds_raise (c := 0) (mk_raise Z.ePlaceError))) (dss_nil)) (dss_cons (ds_if (dt_cmp orD_in (og_in (.inl rfl)) (de_ix (de_var (i := 0)) (de_var (i := 1))) (de_gstr (l := g_LETTERS) Z.gLETTERS) (hm := by with_unfolding_all rfl)) (dss_one (ds_ret (de_str (l := [119, 111, 114, 100])))) (dss_nil)) (dss_one (ds_ret (de_if (dt_cmp orD_in (og_in (.inl rfl)) (de_ix (de_var (i := 0)) (de_var (i := 1))) (de_op op_addD (og_add (.inl rfl)) (de_str (l := [32])) (de_gstr (l := [10]) Z.gEND)) (hm := by with_unfolding_all rfl)) (de_str (l := [115, 112, 97, 99, 101])) (de_str (l := [115, 105, 103, 110]))))))
def b_word_at : Rho → Fl := sS (sDrop (fCall [none, none] m_check_at (fCons (fVar 0) (fCons (fVar 1) (fNil))))) (sS (sPar2 2 3 (fCons (fVar 1) (fCons (fVar 1) (fNil)))) (sS (whileL (fAnd (fB (m2 gtD (fVar 2) (fC (.int 0)))) (fB (m2 (inD false) (m2 ixD (fVar 0) (m2 subD (fVar 2) (fC (.int 1)))) (fC (.str g_LETTERS))))) (sAug 2 subD (fC (.int 1))) 1000000) (sS (whileL (fAnd (fB (m2 ltD (fVar 3) (fn1 lenN (fVar 0)))) (fB (m2 (inD false) (m2 ixD (fVar 0) (fVar 3)) (fC (.str g_LETTERS))))) (sAug 3 augD (fC (.int 1))) 1000000) (sRet (fTup (fCons (fVar 2) (fCons (fVar 3) (fNil))))))))
def N_word_at : List Str := ["text", "at", "start", "end"]
def m_word_at : List D → Out D := runB 4 b_word_at
theorem sc_word_at : FnScope N_word_at ["text", "at"] (defScope s_word_at) := ⟨rfl, rfl, rfl, by decide +kernel, rfl, by decide +kernel, by decide +kernel⟩
theorem ok_word_at (Z : Txt K mg T a d tk tc tp) (B : ∀ i, LamX.TabB base mg (tc i) (tp i)) : FnOk P w K mg base (L2.CX P w) 2 (a 6) (d 6) ["text", "at"] (spD K T N_word_at 2 [0, 0, 0, 0] .S m_word_at) := by
  have OK_check_at := ok_check_at (P := P) (w := w) (base := base) Z B
  have hN := sc_word_at.nd
  refine fn_D Z.fword_at.F sc_word_at rfl (.inl rfl) fun cdv A outer s H E hr => ?_
  exact dss_cons (ds_expr (de_call OK_check_at (hr.mono (by decide)) Z.fcheck_at.g Z.fcheck_at.F.kp Z.fcheck_at.b (dr_val (de_var (i := 0)) (dr_val (de_var (i := 1)) (dr_nil))))) (dss_cons (ds_par2 (i := 2) (j := 3) (da_cons (de_var (i := 1)) (da_cons (de_var (i := 1)) (da_nil))) hN) (dss_cons (ds_while 1000000 (L2.passes_of rfl) (DW.dt (dw_and (dt_cmp orD_gt og_gt (de_var (i := 2)) (de_int)) (dw_and1 (dt_cmp orD_in (og_in (.inl rfl)) (de_ix (de_var (i := 0)) (de_op op_sub og_sub (de_var (i := 2)) (de_int))) (de_gstr (l := g_LETTERS) Z.gLETTERS) (hm := by with_unfolding_all rfl))))) (dss_one (ds_aug (i := 2) iop_sub og_sub (de_int) hN))) (dss_cons (ds_while 1000000 (L2.passes_of rfl) (DW.dt (dw_and (dt_cmp orD_lt og_lt (de_var (i := 3)) (de_len Z.n_len (de_var (i := 0)))) (dw_and1 (dt_cmp orD_in (og_in (.inl rfl)) (de_ix (de_var (i := 0)) (de_var (i := 3))) (de_gstr (l := g_LETTERS) Z.gLETTERS) (hm := by with_unfolding_all rfl))))) (dss_one (ds_aug (i := 3) iop_addD og_aug (de_int) hN))) (dss_one (ds_ret (de_tup (da_cons (de_var (i := 2)) (da_cons (de_var (i := 3)) (da_nil)))))))))
def b_next_word : Rho → Fl := sS (sDrop (fCall [none, none] m_check_at (fCons (fVar 0) (fCons (fVar 1) (fNil))))) (sS (sSet 2 (fVar 1)) (sS (sIf (fAnd (fB (m2 ltD (fVar 2) (fn1 lenN (fVar 0)))) (fB (m2 neD (fCall [none, none] m_kind_at (fCons (fVar 0) (fCons (fVar 2) (fNil)))) (fC (.str [115, 112, 97, 99, 101]))))) (sS (sSet 3 (fCall [none, none] m_kind_at (fCons (fVar 0) (fCons (fVar 2) (fNil))))) (whileL (fAnd (fB (m2 ltD (fVar 2) (fn1 lenN (fVar 0)))) (fB (m2 eqD (fCall [none, none] m_kind_at (fCons (fVar 0) (fCons (fVar 2) (fNil)))) (fVar 3)))) (sAug 2 augD (fC (.int 1))) 1000000)) (sNx)) (sS (whileL (fAnd (fB (m2 ltD (fVar 2) (fn1 lenN (fVar 0)))) (fB (m2 eqD (fCall [none, none] m_kind_at (fCons (fVar 0) (fCons (fVar 2) (fNil)))) (fC (.str [115, 112, 97, 99, 101]))))) (sAug 2 augD (fC (.int 1))) 1000000) (sRet (fVar 2)))))
def N_next_word : List Str := ["text", "at", "here", "kind"]
def m_next_word : List D → Out D := runB 4 b_next_word
theorem sc_next_word : FnScope N_next_word ["text", "at"] (defScope s_next_word) := ⟨rfl, rfl, rfl, by decide +kernel, rfl, by decide +kernel, by decide +kernel⟩
theorem ok_next_word (Z : Txt K mg T a d tk tc tp) (B : ∀ i, LamX.TabB base mg (tc i) (tp i)) : FnOk P w K mg base (L2.CX P w) 2 (a 7) (d 7) ["text", "at"] (spD K T N_next_word 2 [0, 0, 0, 0] .S m_next_word) := by
  have OK_check_at := ok_check_at (P := P) (w := w) (base := base) Z B
  have OK_kind_at := ok_kind_at (P := P) (w := w) (base := base) Z B
  have hN := sc_next_word.nd
  refine fn_D Z.fnext_word.F sc_next_word rfl (.inl rfl) fun cdv A outer s H E hr => ?_
  exact dss_cons (ds_expr (de_call OK_check_at (hr.mono (by decide)) Z.fcheck_at.g Z.fcheck_at.F.kp Z.fcheck_at.b (dr_val (de_var (i := 0)) (dr_val (de_var (i := 1)) (dr_nil))))) (dss_cons (ds_set (i := 2) (de_var (i := 1)) (hN := hN)) (dss_cons (ds_if (DW.dt (dw_and (dt_cmp orD_lt og_lt (de_var (i := 2)) (de_len Z.n_len (de_var (i := 0)))) (dw_and1 (dt_cmp (op_neD (room64 hr)) og_ne (de_call OK_kind_at (hr.mono (by decide)) Z.fkind_at.g Z.fkind_at.F.kp Z.fkind_at.b (dr_val (de_var (i := 0)) (dr_val (de_var (i := 2)) (dr_nil)))) (de_str (l := [115, 112, 97, 99, 101])))))) (dss_cons (ds_set (i := 3) (de_call OK_kind_at (hr.mono (by decide)) Z.fkind_at.g Z.fkind_at.F.kp Z.fkind_at.b (dr_val (de_var (i := 0)) (dr_val (de_var (i := 2)) (dr_nil)))) (hN := hN)) (dss_one (ds_while 1000000 (L2.passes_of rfl) (DW.dt (dw_and (dt_cmp orD_lt og_lt (de_var (i := 2)) (de_len Z.n_len (de_var (i := 0)))) (dw_and1 (dt_cmp (op_eqD (room64 hr)) og_eq (de_call OK_kind_at (hr.mono (by decide)) Z.fkind_at.g Z.fkind_at.F.kp Z.fkind_at.b (dr_val (de_var (i := 0)) (dr_val (de_var (i := 2)) (dr_nil)))) (de_var (i := 3)))))) (dss_one (ds_aug (i := 2) iop_addD og_aug (de_int) hN))))) (dss_nil)) (dss_cons (ds_while 1000000 (L2.passes_of rfl) (DW.dt (dw_and (dt_cmp orD_lt og_lt (de_var (i := 2)) (de_len Z.n_len (de_var (i := 0)))) (dw_and1 (dt_cmp (op_eqD (room64 hr)) og_eq (de_call OK_kind_at (hr.mono (by decide)) Z.fkind_at.g Z.fkind_at.F.kp Z.fkind_at.b (dr_val (de_var (i := 0)) (dr_val (de_var (i := 2)) (dr_nil)))) (de_str (l := [115, 112, 97, 99, 101])))))) (dss_one (ds_aug (i := 2) iop_addD og_aug (de_int) hN))) (dss_one (ds_ret (de_var (i := 2)))))))
def b_last_word : Rho → Fl := sS (sDrop (fCall [none, none] m_check_at (fCons (fVar 0) (fCons (fVar 1) (fNil))))) (sS (sSet 2 (fVar 1)) (sS (whileL (fAnd (fB (m2 gtD (fVar 2) (fC (.int 0)))) (fB (m2 eqD (fCall [none, none] m_kind_at (fCons (fVar 0) (fCons (m2 subD (fVar 2) (fC (.int 1))) (fNil)))) (fC (.str [115, 112, 97, 99, 101]))))) (sAug 2 subD (fC (.int 1))) 1000000) (sS (sIf (fB (m2 gtD (fVar 2) (fC (.int 0)))) (sS (sSet 3 (fCall [none, none] m_kind_at (fCons (fVar 0) (fCons (m2 subD (fVar 2) (fC (.int 1))) (fNil))))) (whileL (fAnd (fB (m2 gtD (fVar 2) (fC (.int 0)))) (fB (m2 eqD (fCall [none, none] m_kind_at (fCons (fVar 0) (fCons (m2 subD (fVar 2) (fC (.int 1))) (fNil)))) (fVar 3)))) (sAug 2 subD (fC (.int 1))) 1000000)) (sNx)) (sRet (fVar 2)))))
def N_last_word : List Str := ["text", "at", "here", "kind"]
def m_last_word : List D → Out D := runB 4 b_last_word
theorem sc_last_word : FnScope N_last_word ["text", "at"] (defScope s_last_word) := ⟨rfl, rfl, rfl, by decide +kernel, rfl, by decide +kernel, by decide +kernel⟩
theorem ok_last_word (Z : Txt K mg T a d tk tc tp) (B : ∀ i, LamX.TabB base mg (tc i) (tp i)) : FnOk P w K mg base (L2.CX P w) 2 (a 8) (d 8) ["text", "at"] (spD K T N_last_word 2 [0, 0, 0, 0] .S m_last_word) := by
  have OK_check_at := ok_check_at (P := P) (w := w) (base := base) Z B
  have OK_kind_at := ok_kind_at (P := P) (w := w) (base := base) Z B
  have hN := sc_last_word.nd
  refine fn_D Z.flast_word.F sc_last_word rfl (.inl rfl) fun cdv A outer s H E hr => ?_
  exact dss_cons (ds_expr (de_call OK_check_at (hr.mono (by decide)) Z.fcheck_at.g Z.fcheck_at.F.kp Z.fcheck_at.b (dr_val (de_var (i := 0)) (dr_val (de_var (i := 1)) (dr_nil))))) (dss_cons (ds_set (i := 2) (de_var (i := 1)) (hN := hN)) (dss_cons (ds_while 1000000 (L2.passes_of rfl) (DW.dt (dw_and (dt_cmp orD_gt og_gt (de_var (i := 2)) (de_int)) (dw_and1 (dt_cmp (op_eqD (room64 hr)) og_eq (de_call OK_kind_at (hr.mono (by decide)) Z.fkind_at.g Z.fkind_at.F.kp Z.fkind_at.b (dr_val (de_var (i := 0)) (dr_val (de_op op_sub og_sub (de_var (i := 2)) (de_int)) (dr_nil)))) (de_str (l := [115, 112, 97, 99, 101])))))) (dss_one (ds_aug (i := 2) iop_sub og_sub (de_int) hN))) (dss_cons (ds_if (dt_cmp orD_gt og_gt (de_var (i := 2)) (de_int)) (dss_cons (ds_set (i := 3) (de_call OK_kind_at (hr.mono (by decide)) Z.fkind_at.g Z.fkind_at.F.kp Z.fkind_at.b (dr_val (de_var (i := 0)) (dr_val (de_op op_sub og_sub (de_var (i := 2)) (de_int)) (dr_nil)))) (hN := hN)) (dss_one (ds_while 1000000 (L2.passes_of rfl) (DW.dt (dw_and (dt_cmp orD_gt og_gt (de_var (i := 2)) (de_int)) (dw_and1 (dt_cmp (op_eqD (room64 hr)) og_eq (de_call OK_kind_at (hr.mono (by decide)) Z.fkind_at.g Z.fkind_at.F.kp Z.fkind_at.b (dr_val (de_var (i := 0)) (dr_val (de_op op_sub og_sub (de_var (i := 2)) (de_int)) (dr_nil)))) (de_var (i := 3)))))) (dss_one (ds_aug (i := 2) iop_sub og_sub (de_int) hN))))) (dss_nil)) (dss_one (ds_ret (de_var (i := 2)))))))
def b_up_or_down : Rho → Fl := sS (sAsg (fCall [none, none] m_row_and_column (fCons (fVar 0) (fCons (fVar 1) (fNil)))) (bTup 2 (bCons (bNm 4) (bCons (bNm 5) (bNil))))) (sS (sSet 6 (m2 subD (fn1 lenN (fCall [none] m_rows_of (fCons (fVar 0) (fNil)))) (fC (.int 1)))) (sRet (fCall [none, none, none] m_at_of (fCons (fVar 0) (fCons (m2 min2D (fVar 6) (m2 max2D (fC (.int 0)) (m2 (addD .S) (fVar 4) (fVar 2)))) (fCons (fVar 3) (fNil)))))))
def N_up_or_down : List Str := ["text", "at", "rows", "wish", "row", "column", "last"]
def m_up_or_down : List D → Out D := runB 7 b_up_or_down
theorem sc_up_or_down : FnScope N_up_or_down ["text", "at", "rows", "wish"] (defScope s_up_or_down) := ⟨rfl, rfl, rfl, by decide +kernel, rfl, by decide +kernel, by decide +kernel⟩
theorem ok_up_or_down (Z : Txt K mg T a d tk tc tp) (B : ∀ i, LamX.TabB base mg (tc i) (tp i)) : FnOk P w K mg base (L2.CX P w) 3 (a 9) (d 9) ["text", "at", "rows", "wish"] (spD K T N_up_or_down 4 [0, 0, 0, 0, 0, 0, 0] .S m_up_or_down) := by
  have OK_at_of := ok_at_of (P := P) (w := w) (base := base) Z B
  have OK_row_and_column := ok_row_and_column (P := P) (w := w) (base := base) Z B
  have OK_rows_of := ok_rows_of (P := P) (w := w) (base := base) Z B
  have hN := sc_up_or_down.nd
  refine fn_D Z.fup_or_down.F sc_up_or_down rfl (.inl rfl) fun cdv A outer s H E hr => ?_
  exact dss_cons (ds_asg (de_call OK_row_and_column (hr.mono (by decide)) Z.frow_and_column.g Z.frow_and_column.F.kp Z.frow_and_column.b (dr_val (de_var (i := 0)) (dr_val (de_var (i := 1)) (dr_nil)))) (dg_tup (n := 2) (dg_cons (dg_nm (i := 4) hN) (dg_cons (dg_nm (i := 5) hN) (dg_nil))))) (dss_cons (ds_set (i := 6) (de_op op_sub og_sub (de_len Z.n_len (de_call OK_rows_of (hr.mono (by decide)) Z.frows_of.g Z.frows_of.F.kp Z.frows_of.b (dr_val (de_var (i := 0)) (dr_nil)))) (de_int)) (hN := hN)) (dss_one (ds_ret (de_call OK_at_of (hr.mono (by decide)) Z.fat_of.g Z.fat_of.F.kp Z.fat_of.b (dr_val (de_var (i := 0)) (dr_val (de_min2 Z.n_min (de_var (i := 6)) (de_max2 Z.n_max (de_int) (de_op op_addD (og_add (.inl rfl)) (de_var (i := 4)) (de_var (i := 2))))) (dr_val (de_var (i := 3)) (dr_nil))))))))
def b_paragraph : Rho → Fl := sS (sAsg (fCall [none, none] m_row_and_column (fCons (fVar 0) (fCons (fVar 1) (fNil)))) (bTup 2 (bCons (bNm 2) (bCons (bNm 3) (bNil))))) (sS (sSet 4 (fCall [none] m_rows_of (fCons (fVar 0) (fNil)))) (sS (sIf (fB (m2 eqD (fM1 (strpD true true) (m2 ixD (fVar 4) (fVar 2)) (fC (.str [32]))) (fC (.str [])))) (sRet (fTup (fCons (fVar 2) (fCons (fVar 2) (fNil))))) (sNx)) (sS (sPar2 5 6 (fCons (fVar 2) (fCons (fVar 2) (fNil)))) (sS (whileL (fAnd (fB (m2 gtD (fVar 5) (fC (.int 0)))) (fB (m2 neD (fM1 (strpD true true) (m2 ixD (fVar 4) (m2 subD (fVar 5) (fC (.int 1)))) (fC (.str [32]))) (fC (.str []))))) (sAug 5 subD (fC (.int 1))) 1000000) (sS (whileL (fAnd (fB (m2 ltD (fVar 6) (m2 subD (fn1 lenN (fVar 4)) (fC (.int 1))))) (fB (m2 neD (fM1 (strpD true true) (m2 ixD (fVar 4) (m2 (addD .S) (fVar 6) (fC (.int 1)))) (fC (.str [32]))) (fC (.str []))))) (sAug 6 augD (fC (.int 1))) 1000000) (sRet (fTup (fCons (fVar 5) (fCons (fVar 6) (fNil))))))))))
def N_paragraph : List Str := ["text", "at", "row", "column", "rows", "first", "last"]
def m_paragraph : List D → Out D := runB 7 b_paragraph
theorem sc_paragraph : FnScope N_paragraph ["text", "at"] (defScope s_paragraph) := ⟨rfl, rfl, rfl, by decide +kernel, rfl, by decide +kernel, by decide +kernel⟩
theorem ok_paragraph (Z : Txt K mg T a d tk tc tp) (B : ∀ i, LamX.TabB base mg (tc i) (tp i)) : FnOk P w K mg base (L2.CX P w) 3 (a 10) (d 10) ["text", "at"] (spD K T N_paragraph 2 [0, 0, 0, 0, 0, 0, 0] .S m_paragraph) := by
  have OK_row_and_column := ok_row_and_column (P := P) (w := w) (base := base) Z B
  have OK_rows_of := ok_rows_of (P := P) (w := w) (base := base) Z B
  have hN := sc_paragraph.nd
  refine fn_D Z.fparagraph.F sc_paragraph rfl (.inl rfl) fun cdv A outer s H E hr => ?_
  exact dss_cons (ds_asg (de_call OK_row_and_column (hr.mono (by decide)) Z.frow_and_column.g Z.frow_and_column.F.kp Z.frow_and_column.b (dr_val (de_var (i := 0)) (dr_val (de_var (i := 1)) (dr_nil)))) (dg_tup (n := 2) (dg_cons (dg_nm (i := 2) hN) (dg_cons (dg_nm (i := 3) hN) (dg_nil))))) (dss_cons (ds_set (i := 4) (de_call OK_rows_of (hr.mono (by decide)) Z.frows_of.g Z.frows_of.F.kp Z.frows_of.b (dr_val (de_var (i := 0)) (dr_nil))) (hN := hN)) (dss_cons (ds_if (dt_cmp (op_eqD (room64 hr)) og_eq (de_strip (de_ix (de_var (i := 4)) (de_var (i := 2))) (de_str (l := [32]))) (de_str (l := []))) (dss_one (ds_ret (de_tup (da_cons (de_var (i := 2)) (da_cons (de_var (i := 2)) (da_nil)))))) (dss_nil)) (dss_cons (ds_par2 (i := 5) (j := 6) (da_cons (de_var (i := 2)) (da_cons (de_var (i := 2)) (da_nil))) hN) (dss_cons (ds_while 1000000 (L2.passes_of rfl) (DW.dt (dw_and (dt_cmp orD_gt og_gt (de_var (i := 5)) (de_int)) (dw_and1 (dt_cmp (op_neD (room64 hr)) og_ne (de_strip (de_ix (de_var (i := 4)) (de_op op_sub og_sub (de_var (i := 5)) (de_int))) (de_str (l := [32]))) (de_str (l := [])))))) (dss_one (ds_aug (i := 5) iop_sub og_sub (de_int) hN))) (dss_cons (ds_while 1000000 (L2.passes_of rfl) (DW.dt (dw_and (dt_cmp orD_lt og_lt (de_var (i := 6)) (de_op op_sub og_sub (de_len Z.n_len (de_var (i := 4))) (de_int))) (dw_and1 (dt_cmp (op_neD (room64 hr)) og_ne (de_strip (de_ix (de_var (i := 4)) (de_op op_addD (og_add (.inl rfl)) (de_var (i := 6)) (de_int))) (de_str (l := [32]))) (de_str (l := [])))))) (dss_one (ds_aug (i := 6) iop_addD og_aug (de_int) hN))) (dss_one (ds_ret (de_tup (da_cons (de_var (i := 5)) (da_cons (de_var (i := 6)) (da_nil)))))))))))
def b_counted : Rho → Fl := sS (sAsg (fTup (fCons (fC (.int 0)) (fCons (fC (.bl false)) (fNil)))) (bTup 2 (bCons (bNm 1) (bCons (bNm 2) (bNil))))) (sS (sFor (fIt strO (fVar 0)) (bNm 3) (sS (sAug 1 augD (fIf (fAnd (fB (m2 (inD false) (fVar 3) (fC (.str g_LETTERS)))) (fNot (fB (fVar 2)))) (fC (.int 1)) (fC (.int 0)))) (sSet 2 (m2 (inD false) (fVar 3) (fC (.str g_LETTERS)))))) (sRet (fTup (fCons (fn1 lenN (fVar 0)) (fCons (fVar 1) (fCons (fn1 lenN (fCall [none] m_rows_of (fCons (fVar 0) (fNil)))) (fCons (fn1 mlenD (fCall [none] m_rows_of (fCons (fVar 0) (fNil)))) (fNil))))))))
def N_counted : List Str := ["text", "words", "inside", "sign", "row"]
def m_counted : List D → Out D := runB 5 b_counted
theorem sc_counted : FnScope N_counted ["text"] (defScope s_counted) := ⟨rfl, rfl, rfl, by decide +kernel, rfl, by decide +kernel, by decide +kernel⟩
theorem ok_counted (Z : Txt K mg T a d tk tc tp) (B : ∀ i, LamX.TabB base mg (tc i) (tp i)) : FnOk P w K mg base (L2.CX P w) 2 (a 11) (d 11) ["text"] (spD K T N_counted 1 [0, 0, 0, 0, 0] .S m_counted) := by
  have OK_rows_of := ok_rows_of (P := P) (w := w) (base := base) Z B
  have hN := sc_counted.nd
  refine fn_DC Z.ccounted sc_counted rfl (.inl rfl) fun A outer s H E hr => ?_
  exact dss_cons (ds_asg (de_tup (da_cons (de_int) (da_cons (de_bl) (da_nil)))) (dg_tup (n := 2) (dg_cons (dg_nm (i := 1) hN) (dg_cons (dg_nm (i := 2) hN) (dg_nil))))) (dss_cons (ds_for (L2.passes_of rfl) (di_str (de_var (i := 0))) (dg_nm (i := 3) hN) (dss_cons (ds_aug (i := 1) iop_addD og_aug (de_if (DW.dt (dw_and (dt_cmp orD_in (og_in (.inl rfl)) (de_var (i := 3)) (de_gstr (l := g_LETTERS) Z.gLETTERS) (hm := by with_unfolding_all rfl)) (dw_and1 (dt_not (dt_val (de_var (i := 2))))))) (de_int) (de_int)) hN) (dss_one (ds_set (i := 2) (de_cmp orD_in (og_in (.inl rfl)) (de_var (i := 3)) (de_gstr (l := g_LETTERS) Z.gLETTERS) (hm := by with_unfolding_all rfl)) (hN := hN))))) (dss_one (ds_ret (de_tup (da_cons (de_len Z.n_len (de_var (i := 0))) (da_cons (de_var (i := 1)) (da_cons (de_len Z.n_len (de_call OK_rows_of (hr.mono (by decide)) Z.frows_of.g Z.frows_of.F.kp Z.frows_of.b (dr_val (de_var (i := 0)) (dr_nil)))) (da_cons (de_maxlen Z.n_max Z.n_len (B 0) rfl (Z.mt0) (Z.ut0) hr (de_call OK_rows_of (hr.mono (by decide)) Z.frows_of.g Z.frows_of.F.kp Z.frows_of.b (dr_val (de_var (i := 0)) (dr_nil)))) (da_nil)))))))))
def b__law_dice : Rho → Fl := sS (sIf (fB (fChain ltD ltD (m2 subD (fC (.int 0)) (fC (.int 10))) (fVar 0) (fC (.int 10)))) (sRet (fLst .F (fCons (fn1 absD (fVar 0)) (fCons (fC (.int 0)) (fCons (fC (.int 2)) (fNil)))))) (sNx)) (sRet (fLst .F (fCons (fVar 0) (fCons (m2 (addD .S) (fC (.int 1)) (m2 modD (fn1 intOfD (fVar 0)) (fC (.int 1009)))) (fCons (fn1 intOfD (m2 geD (fVar 0) (m2 powD (fC (.int 10)) (fC (.int 18))))) (fNil))))))
def N__law_dice : List Str := ["cell"]
def m__law_dice : List D → Out D := runB 1 b__law_dice
theorem sc__law_dice : FnScope N__law_dice ["cell"] (defScope s__law_dice) := ⟨rfl, rfl, rfl, by decide +kernel, rfl, by decide +kernel, by decide +kernel⟩
theorem ok__law_dice (Z : Txt K mg T a d tk tc tp) (B : ∀ i, LamX.TabB base mg (tc i) (tp i)) : FnOk P w K mg base (L2.CX P w) 1 (a 12) (d 12) ["cell"] (spD K T N__law_dice 1 [0] .F m__law_dice) := by
  have hN := sc__law_dice.nd
  refine fn_D Z.f_law_dice.F sc__law_dice rfl (.inr rfl) fun cdv A outer s H E hr => ?_
  exact dss_cons (ds_if (dt_chain orD_lt orD_lt og_lt og_lt (de_op op_sub og_sub (de_int) (de_int)) (de_var (i := 0)) (de_int)) (dss_one (ds_ret (de_lst (.inr rfl) (da_cons (de_abs Z.n_abs (de_var (i := 0))) (da_cons (de_int) (da_cons (de_int) (da_nil))))))) (dss_nil)) (dss_one (ds_ret (de_lst (.inr rfl) (da_cons (de_var (i := 0)) (da_cons (de_op op_addD (og_add (.inl rfl)) (de_int) (de_op op_mod og_mod (de_intc Z.n_int (de_var (i := 0))) (de_int))) (da_cons (de_intc Z.n_int (de_cmp orD_ge og_ge (de_var (i := 0)) (de_op op_pow og_pow (de_int) (de_int)))) (da_nil)))))))
def b__law_roll : Rho → Fl := sS (sIf (fOr (fB (m2 eqD (m2 ixD (fOwnC 0) (fC (.int 2))) (fC (.int 2)))) (fAnd (fB (m2 eqD (m2 ixD (fOwnC 0) (fC (.int 2))) (fC (.int 1)))) (fB (m2 gtD (m2 ixD (fOwnC 0) (fC (.int 0))) (fC (.int 0)))))) (sS (sSet 2 (m2 modD (fn1 intOfD (m2 ixD (fOwnC 0) (fC (.int 0)))) (fVar 1))) (sS (sPut 0 (fC (.int 0)) (m2 fdvD (m2 ixD (fOwnC 0) (fC (.int 0))) (fVar 1))) (sRet (fVar 2)))) (sNx)) (sS (sPut 0 (fC (.int 2)) (fC (.int 0))) (sS (sIf (fB (m2 gtD (fVar 1) (fC (.int 100000000)))) sStk (sNx)) (sS (sPut 0 (fC (.int 0)) (m2 modD (fn1 intOfD (m2 (addD .S) (m2 (addD .S) (m2 mulD (m2 ixD (fOwnC 0) (fC (.int 0))) (fC (.int 48271))) (m2 mulD (m2 ixD (fOwnC 0) (fC (.int 1))) (fC (.int 69621)))) (fC (.int 11)))) (fC (.int 2147483647)))) (sS (sPut 0 (fC (.int 1)) (m2 (addD .S) (m2 ixD (fOwnC 0) (fC (.int 1))) (fC (.int 1)))) (sRet (m2 modD (fn1 intOfD (m2 fdvD (m2 ixD (fOwnC 0) (fC (.int 0))) (fC (.int 7)))) (fVar 1)))))))
def N__law_roll : List Str := ["dice", "many", "found"]
def m__law_roll : List D → Out D := runB 3 b__law_roll
theorem sc__law_roll : FnScope N__law_roll ["dice", "many"] (defScope s__law_roll) := ⟨rfl, rfl, rfl, by decide +kernel, rfl, by decide +kernel, by decide +kernel⟩
theorem ok__law_roll (Z : Txt K mg T a d tk tc tp) (B : ∀ i, LamX.TabB base mg (tc i) (tp i)) : FnOk P w K mg base (L2.CX P w) 1 (a 13) (d 13) ["dice", "many"] (spD K T N__law_roll 2 [3, 0, 0] .S m__law_roll) := by
  have hN := sc__law_roll.nd
  refine fn_D Z.f_law_roll.F sc__law_roll rfl (.inl rfl) fun cdv A outer s H E hr => ?_
  exact dss_cons (ds_if (DW.dt (dw_or (dt_cmp (op_eqD (room64 hr)) og_eq (de_ix (de_ownC (i := 0)) (de_int)) (de_int)) (dw_or1 (DW.dt (dw_and (dt_cmp (op_eqD (room64 hr)) og_eq (de_ix (de_ownC (i := 0)) (de_int)) (de_int)) (dw_and1 (dt_cmp orD_gt og_gt (de_ix (de_ownC (i := 0)) (de_int)) (de_int)))))))) (dss_cons (ds_set (i := 2) (de_op op_mod og_mod (de_intc Z.n_int (de_ix (de_ownC (i := 0)) (de_int))) (de_var (i := 1))) (hN := hN)) (dss_cons (ds_put (i := 0) (de_op op_fdiv og_fdv (de_ix (de_ownC (i := 0)) (de_int)) (de_var (i := 1))) (de_int)) (dss_one (ds_ret (de_var (i := 2)))))) (dss_nil)) (dss_cons (ds_put (i := 0) (de_int) (de_int)) (dss_cons (ds_if (dt_cmp orD_gt og_gt (de_var (i := 1)) (de_int)) dss_never (dss_nil)) (dss_cons (ds_put (i := 0) (de_op op_mod og_mod (de_intc Z.n_int (de_op op_addD (og_add (.inl rfl)) (de_op op_addD (og_add (.inl rfl)) (de_op op_mul og_mul (de_ix (de_ownC (i := 0)) (de_int)) (de_int)) (de_op op_mul og_mul (de_ix (de_ownC (i := 0)) (de_int)) (de_int))) (de_int))) (de_int)) (de_int)) (dss_cons (ds_put (i := 0) (de_op op_addD (og_add (.inl rfl)) (de_ix (de_ownC (i := 0)) (de_int)) (de_int)) (de_int)) (dss_one (ds_ret (de_op op_mod og_mod (de_intc Z.n_int (de_op op_fdiv og_fdv (de_ix (de_ownC (i := 0)) (de_int)) (de_int))) (de_var (i := 1)))))))))
def b__law_rounds : Rho → Fl := sS (sSet 2 (fSl .S (fVar 0) (fNo) (fPart (fVar 1)))) (sS (sIf (fB (m2 eqD (fVar 2) (fLst .S (fNil)))) (sSet 2 (fLst .S (fCons (fC (.int 0)) (fNil)))) (sNx)) (sRet (fLcF [3] (fIt lstO (fVar 2)) (bNm 3) (fYes) (fCall [none] m__law_dice (fCons (fVar 3) (fNil))))))
def N__law_rounds : List Str := ["script", "most", "cells", "cell"]
def m__law_rounds : List D → Out D := runB 4 b__law_rounds
theorem sc__law_rounds : FnScope N__law_rounds ["script", "most"] (defScope s__law_rounds) := ⟨rfl, rfl, rfl, by decide +kernel, rfl, by decide +kernel, by decide +kernel⟩
theorem ok__law_rounds (Z : Txt K mg T a d tk tc tp) (B : ∀ i, LamX.TabB base mg (tc i) (tp i)) : FnOk P w K mg base (L2.CX P w) 2 (a 14) (d 14) ["script", "most"] (spD K T N__law_rounds 2 [0, 0, 0, 0] .F m__law_rounds) := by
  have OK__law_dice := ok__law_dice (P := P) (w := w) (base := base) Z B
  have hN := sc__law_rounds.nd
  refine fn_D Z.f_law_rounds.F sc__law_rounds rfl (.inr rfl) fun cdv A outer s H E hr => ?_
  exact dss_cons (ds_set (i := 2) (de_sl (.inl rfl) (.inl rfl) (de_var (i := 0)) (do_no) (do_some (de_var (i := 1)))) (hN := hN)) (dss_cons (ds_if (dt_cmp (op_eqD (room64 hr)) og_eq (de_var (i := 2)) (de_lst (.inl rfl) (da_nil))) (dss_one (ds_set (i := 2) (de_lst (.inl rfl) (da_cons (de_int) (da_nil))) (hN := hN))) (dss_nil)) (dss_one (ds_ret (de_lcF (own := [("cell", 3)]) hN (di_lst (de_var (i := 2))) (fun _ _ _ _ _ => dg_nm (i := 3) hN) (fun _ _ _ _ _ => dts_nil) (fun _ _ _ _ _ => de_call OK__law_dice (hr.mono (by decide)) Z.f_law_dice.g Z.f_law_dice.F.kp Z.f_law_dice.b (dr_val (de_var (i := 3)) (dr_nil)))))))
def b__law_text : Rho → Fl := sRet (fM1 joinD (fC (.str [])) (fLc .S [2] (fItA rg1D (fCons (fCall [some 0, none] m__law_roll (fRef 0 (fCons (fVar 1) (fNil)))) (fNil))) (bNm 2) (fYes) (m2 ixD (fLst .S (fCons (fC (.str [97])) (fCons (fC (.str [66])) (fCons (fC (.str [55])) (fCons (fC (.str [95])) (fCons (fC (.str [32])) (fCons (fC (.str [32])) (fCons (fC (.str [44])) (fCons (fC (.str [40])) (fCons (fC (.str [10])) (fNil))))))))))) (fCall [some 0, none] m__law_roll (fRef 0 (fCons (fC (.int 9)) (fNil)))))))
def N__law_text : List Str := ["dice", "most", "k"]
def m__law_text : List D → Out D := runB 3 b__law_text
theorem sc__law_text : FnScope N__law_text ["dice", "most"] (defScope s__law_text) := ⟨rfl, rfl, rfl, by decide +kernel, rfl, by decide +kernel, by decide +kernel⟩
theorem ok__law_text (Z : Txt K mg T a d tk tc tp) (B : ∀ i, LamX.TabB base mg (tc i) (tp i)) : FnOk P w K mg base (L2.CX P w) 2 (a 16) (d 16) ["dice", "most"] (spD K T N__law_text 2 [3, 0, 0] .S m__law_text) := by
  have OK__law_roll := ok__law_roll (P := P) (w := w) (base := base) Z B
  have hN := sc__law_text.nd
  refine fn_D Z.f_law_text.F sc__law_text rfl (.inl rfl) fun cdv A outer s H E hr => ?_
  exact dss_one (ds_ret (de_join (de_str (l := [])) (de_lc (own := [("k", 2)]) hN (di_rng1 (da_cons (de_call OK__law_roll (hr.mono (by decide)) Z.f_law_roll.g Z.f_law_roll.F.kp Z.f_law_roll.b (dr_ref (i := 0) (dr_val (de_var (i := 1)) (dr_nil)))) (da_nil)) Z.n_range) (fun _ _ _ _ _ => dg_nm (i := 2) hN) (fun _ _ _ _ _ => dts_nil) (fun _ _ _ _ _ => de_ix (de_lst (.inl rfl) (da_cons (de_str (l := [97])) (da_cons (de_str (l := [66])) (da_cons (de_str (l := [55])) (da_cons (de_str (l := [95])) (da_cons (de_str (l := [32])) (da_cons (de_str (l := [32])) (da_cons (de_str (l := [44])) (da_cons (de_str (l := [40])) (da_cons (de_gstr (l := [10]) Z.gEND) (da_nil))))))))))) (de_call OK__law_roll (hr.mono (by decide)) Z.f_law_roll.g Z.f_law_roll.F.kp Z.f_law_roll.b (dr_ref (i := 0) (dr_val (de_int) (dr_nil))))))))
def b__law_kind : Rho → Fl := sRet (fIf (fB (m2 (inD false) (fVar 0) (fC (.str g_LETTERS)))) (fC (.str [119, 111, 114, 100])) (fIf (fB (m2 (inD false) (fVar 0) (fLst .S (fCons (fC (.str [32])) (fCons (fC (.str [10])) (fNil)))))) (fC (.str [115, 112, 97, 99, 101])) (fC (.str [115, 105, 103, 110]))))
def N__law_kind : List Str := ["sign"]
def m__law_kind : List D → Out D := runB 1 b__law_kind
theorem sc__law_kind : FnScope N__law_kind ["sign"] (defScope s__law_kind) := ⟨rfl, rfl, rfl, by decide +kernel, rfl, by decide +kernel, by decide +kernel⟩
theorem ok__law_kind (Z : Txt K mg T a d tk tc tp) (B : ∀ i, LamX.TabB base mg (tc i) (tp i)) : FnOk P w K mg base (L2.CX P w) 1 (a 17) (d 17) ["sign"] (spD K T N__law_kind 1 [0] .S m__law_kind) := by
  have hN := sc__law_kind.nd
  refine fn_D Z.f_law_kind.F sc__law_kind rfl (.inl rfl) fun cdv A outer s H E hr => ?_
  exact dss_one (ds_ret (de_if (dt_cmp orD_in (og_in (.inl rfl)) (de_var (i := 0)) (de_gstr (l := g_LETTERS) Z.gLETTERS) (hm := by with_unfolding_all rfl)) (de_str (l := [119, 111, 114, 100])) (de_if (dt_cmp orD_in (og_in (.inl rfl)) (de_var (i := 0)) (de_lst (.inl rfl) (da_cons (de_str (l := [32])) (da_cons (de_gstr (l := [10]) Z.gEND) (da_nil)))) (hm := by with_unfolding_all rfl)) (de_str (l := [115, 112, 97, 99, 101])) (de_str (l := [115, 105, 103, 110])))))
def b__law_rows : Rho → Fl := sS (sSet 1 (fLst .S (fCons (fC (.str [])) (fNil)))) (sS (sFor (fIt strO (fVar 0)) (bNm 2) (sSet 1 (fIf (fB (m2 eqD (fVar 2) (fC (.str [10])))) (m2 (addD .S) (fVar 1) (fLst .S (fCons (fC (.str [])) (fNil)))) (m2 (addD .S) (fSl .S (fVar 1) (fNo) (fPart (fn1 negD (fC (.int 1))))) (fLst .S (fCons (m2 (addD .S) (m2 ixD (fVar 1) (fn1 negD (fC (.int 1)))) (fVar 2)) (fNil))))))) (sRet (fVar 1)))
def N__law_rows : List Str := ["text", "found", "sign"]
def m__law_rows : List D → Out D := runB 3 b__law_rows
theorem sc__law_rows : FnScope N__law_rows ["text"] (defScope s__law_rows) := ⟨rfl, rfl, rfl, by decide +kernel, rfl, by decide +kernel, by decide +kernel⟩
theorem ok__law_rows (Z : Txt K mg T a d tk tc tp) (B : ∀ i, LamX.TabB base mg (tc i) (tp i)) : FnOk P w K mg base (L2.CX P w) 1 (a 18) (d 18) ["text"] (spD K T N__law_rows 1 [0, 0, 0] .S m__law_rows) := by
  have hN := sc__law_rows.nd
  refine fn_D Z.f_law_rows.F sc__law_rows rfl (.inl rfl) fun cdv A outer s H E hr => ?_
  exact dss_cons (ds_set (i := 1) (de_lst (.inl rfl) (da_cons (de_str (l := [])) (da_nil))) (hN := hN)) (dss_cons (ds_for (L2.passes_of rfl) (di_str (de_var (i := 0))) (dg_nm (i := 2) hN) (dss_one (ds_set (i := 1) (de_if (dt_cmp (op_eqD (room64 hr)) og_eq (de_var (i := 2)) (de_gstr (l := [10]) Z.gEND)) (de_op op_addD (og_add (.inl rfl)) (de_var (i := 1)) (de_lst (.inl rfl) (da_cons (de_str (l := [])) (da_nil)))) (de_op op_addD (og_add (.inl rfl)) (de_sl (.inl rfl) (.inl rfl) (de_var (i := 1)) (do_no) (do_some (de_neg (de_int)))) (de_lst (.inl rfl) (da_cons (de_op op_addD (og_add (.inl rfl)) (de_ix (de_var (i := 1)) (de_neg (de_int))) (de_var (i := 2))) (da_nil))))) (hN := hN)))) (dss_one (ds_ret (de_var (i := 1)))))
def b__law_bare : Rho → Fl := sRet (m2 eqD (fLc .S [1] (fIt strO (fVar 0)) (bNm 1) (fB (m2 neD (fVar 1) (fC (.str [32])))) (fVar 1)) (fLst .S (fNil)))
def N__law_bare : List Str := ["row", "sign"]
def m__law_bare : List D → Out D := runB 2 b__law_bare
theorem sc__law_bare : FnScope N__law_bare ["row"] (defScope s__law_bare) := ⟨rfl, rfl, rfl, by decide +kernel, rfl, by decide +kernel, by decide +kernel⟩
theorem ok__law_bare (Z : Txt K mg T a d tk tc tp) (B : ∀ i, LamX.TabB base mg (tc i) (tp i)) : FnOk P w K mg base (L2.CX P w) 1 (a 19) (d 19) ["row"] (spD K T N__law_bare 1 [0, 0] .S m__law_bare) := by
  have hN := sc__law_bare.nd
  refine fn_D Z.f_law_bare.F sc__law_bare rfl (.inl rfl) fun cdv A outer s H E hr => ?_
  exact dss_one (ds_ret (de_cmp (op_eqD (room64 hr)) og_eq (de_lc (own := [("sign", 1)]) hN (di_str (de_var (i := 0))) (fun _ _ _ _ _ => dg_nm (i := 1) hN) (fun _ _ _ _ _ => dts_one (dt_cmp (op_neD (room64 hr)) og_ne (de_var (i := 1)) (de_str (l := [32])))) (fun _ _ _ _ _ => de_var (i := 1))) (de_lst (.inl rfl) (da_nil))))
def b__law_plain : Rho → Fl := sS (sSet 0 (m2 (addD .S) (m2 (addD .S) (m2 (addD .S) (fC (.str [97, 98, 32, 99, 100, 44])) (fC (.str [10]))) (fC (.str [10]))) (fC (.str [120, 121, 95, 49, 32, 32, 122])))) (sBad 1 okT [(fCall [none, none] m_check_at (fCons (fVar 0) (fCons (fn1 negD (fC (.int 1))) (fNil)))), (fCall [none, none] m_check_at (fCons (fVar 0) (fCons (fC (.int 16)) (fNil)))), (fCall [none, none] m_row_and_column (fCons (fVar 0) (fCons (fC (.int 16)) (fNil)))), (fCall [none, none, none] m_at_of (fCons (fVar 0) (fCons (fC (.int 3)) (fCons (fC (.int 0)) (fNil))))), (fCall [none, none, none] m_at_of (fCons (fVar 0) (fCons (fn1 negD (fC (.int 1))) (fCons (fC (.int 0)) (fNil))))), (fCall [none, none, none] m_at_of (fCons (fVar 0) (fCons (fC (.int 0)) (fCons (fn1 negD (fC (.int 1))) (fNil))))), (fCall [none, none] m_kind_at (fCons (fVar 0) (fCons (fC (.int 15)) (fNil)))), (fCall [none, none] m_kind_at (fCons (fVar 0) (fCons (fn1 negD (fC (.int 1))) (fNil)))), (fCall [none, none] m_word_at (fCons (fVar 0) (fCons (fC (.int 16)) (fNil)))), (fCall [none, none] m_next_word (fCons (fVar 0) (fCons (fn1 negD (fC (.int 1))) (fNil)))), (fCall [none, none] m_last_word (fCons (fVar 0) (fCons (fC (.int 16)) (fNil)))), (fCall [none, none, none, none] m_up_or_down (fCons (fVar 0) (fCons (fC (.int 16)) (fCons (fC (.int 0)) (fCons (fC (.int 0)) (fNil)))))), (fCall [none, none, none, none] m_up_or_down (fCons (fVar 0) (fCons (fC (.int 0)) (fCons (fC (.int 0)) (fCons (fn1 negD (fC (.int 1))) (fNil)))))), (fCall [none, none] m_paragraph (fCons (fVar 0) (fCons (fC (.int 16)) (fNil))))] (fOr (fB (m2 neD (fn1 lenN (fC (.str g_LETTERS))) (fC (.int 63)))) (fB (m2 (inD true) (fC (.str [95])) (fC (.str g_LETTERS))))) (sRet (fC (.bl false))) (sS (sIf (fOr (fB (m2 neD (fn1 lenN (fC (.str [10]))) (fC (.int 1)))) (fOr (fB (m2 neD (fCall [none, none] m_row_and_column (fCons (fVar 0) (fCons (fC (.int 9)) (fNil)))) (fTup (fCons (fC (.int 2)) (fCons (fC (.int 1)) (fNil)))))) (fB (m2 neD (fCall [none, none, none] m_at_of (fCons (fVar 0) (fCons (fC (.int 2)) (fCons (fC (.int 99)) (fNil))))) (fC (.int 15)))))) (sRet (fC (.bl false))) (sNx)) (sS (sIf (fNot (fAnd (fB (m2 eqD (fCall [none, none] m_word_at (fCons (fVar 0) (fCons (fC (.int 1)) (fNil)))) (fTup (fCons (fC (.int 0)) (fCons (fC (.int 2)) (fNil)))))) (fAnd (fB (m2 eqD (fCall [none, none] m_next_word (fCons (fVar 0) (fCons (fC (.int 0)) (fNil)))) (fC (.int 3)))) (fB (m2 eqD (fCall [none, none] m_next_word (fCons (fVar 0) (fCons (fC (.int 3)) (fNil)))) (fC (.int 5))))))) (sRet (fC (.bl false))) (sNx)) (sRet (fAndV (m2 eqD (fCall [none, none] m_last_word (fCons (fVar 0) (fCons (fC (.int 5)) (fNil)))) (fC (.int 3))) (fAndV (m2 eqD (fCall [none, none, none, none] m_up_or_down (fCons (fVar 0) (fCons (fC (.int 4)) (fCons (fC (.int 2)) (fCons (fC (.int 3)) (fNil)))))) (fC (.int 11))) (fAndV (m2 eqD (fCall [none, none] m_paragraph (fCons (fVar 0) (fCons (fC (.int 9)) (fNil)))) (fTup (fCons (fC (.int 2)) (fCons (fC (.int 2)) (fNil))))) (fAndV (m2 eqD (fCall [none] m_counted (fCons (fVar 0) (fNil))) (fTup (fCons (fC (.int 15)) (fCons (fC (.int 4)) (fCons (fC (.int 3)) (fCons (fC (.int 7)) (fNil))))))) (fAndV (m2 eqD (fCall [none] m_rows_of (fCons (fC (.str [])) (fNil))) (fTup (fCons (fC (.str [])) (fNil)))) (m2 eqD (fCall [none, none] m_kind_at (fCons (fVar 0) (fCons (fC (.int 5)) (fNil)))) (fC (.str [115, 105, 103, 110]))))))))))))
def N__law_plain : List Str := ["text", "bad", "f"]
def m__law_plain : List D → Out D := runB 3 b__law_plain
theorem sc__law_plain : FnScope N__law_plain [] (defScope s__law_plain) := ⟨rfl, rfl, rfl, by decide +kernel, rfl, by decide +kernel, by decide +kernel⟩
theorem ok__law_plain (Z : Txt K mg T a d tk tc tp) (B : ∀ i, LamX.TabB base mg (tc i) (tp i)) : FnOk P w K mg base (L2.CX P w) 7 (a 20) (d 20) [] (spD K T N__law_plain 0 [0, 0, 0] .S m__law_plain) := by
  have OK_at_of := ok_at_of (P := P) (w := w) (base := base) Z B
  have OK_check_at := ok_check_at (P := P) (w := w) (base := base) Z B
  have OK_counted := ok_counted (P := P) (w := w) (base := base) Z B
  have OK_kind_at := ok_kind_at (P := P) (w := w) (base := base) Z B
  have OK_last_word := ok_last_word (P := P) (w := w) (base := base) Z B
  have OK_next_word := ok_next_word (P := P) (w := w) (base := base) Z B
  have OK_paragraph := ok_paragraph (P := P) (w := w) (base := base) Z B
  have OK_row_and_column := ok_row_and_column (P := P) (w := w) (base := base) Z B
  have OK_rows_of := ok_rows_of (P := P) (w := w) (base := base) Z B
  have OK_up_or_down := ok_up_or_down (P := P) (w := w) (base := base) Z B
  have OK_word_at := ok_word_at (P := P) (w := w) (base := base) Z B
  have hN := sc__law_plain.nd
  refine fn_DC Z.c_law_plain sc__law_plain rfl (.inl rfl) fun A outer s H E hr => ?_
  exact dss_cons (ds_set (i := 0) (de_op op_addD (og_add (.inl rfl)) (de_op op_addD (og_add (.inl rfl)) (de_op op_addD (og_add (.inl rfl)) (de_str (l := [97, 98, 32, 99, 100, 44])) (de_gstr (l := [10]) Z.gEND)) (de_gstr (l := [10]) Z.gEND)) (de_str (l := [120, 121, 95, 49, 32, 32, 122]))) (hN := hN)) (dss_bad (k := 3) (ok := okT) (ib := 1) (jf := 2) hN (told_ok Z) (B 1) rfl (Z.mt1) (Z.ut1) (ex_ok Z) (hr.mono (by decide)) (DLs.cons (lamT_by rfl rfl (by intros; rfl)) (fun _ _ _ _ _ _ _ hr => de_call OK_check_at (hr.mono (by decide)) Z.fcheck_at.g Z.fcheck_at.F.kp Z.fcheck_at.b (dr_val (de_var (i := 0)) (dr_val (de_neg (de_int)) (dr_nil)))) (DLs.cons (lamT_by rfl rfl (by intros; rfl)) (fun _ _ _ _ _ _ _ hr => de_call OK_check_at (hr.mono (by decide)) Z.fcheck_at.g Z.fcheck_at.F.kp Z.fcheck_at.b (dr_val (de_var (i := 0)) (dr_val (de_int) (dr_nil)))) (DLs.cons (lamT_by rfl rfl (by intros; rfl)) (fun _ _ _ _ _ _ _ hr => de_call OK_row_and_column (hr.mono (by decide)) Z.frow_and_column.g Z.frow_and_column.F.kp Z.frow_and_column.b (dr_val (de_var (i := 0)) (dr_val (de_int) (dr_nil)))) (DLs.cons (lamT_by rfl rfl (by intros; rfl)) (fun _ _ _ _ _ _ _ hr => de_call OK_at_of (hr.mono (by decide)) Z.fat_of.g Z.fat_of.F.kp Z.fat_of.b (dr_val (de_var (i := 0)) (dr_val (de_int) (dr_val (de_int) (dr_nil))))) (DLs.cons (lamT_by rfl rfl (by intros; rfl)) (fun _ _ _ _ _ _ _ hr => de_call OK_at_of (hr.mono (by decide)) Z.fat_of.g Z.fat_of.F.kp Z.fat_of.b (dr_val (de_var (i := 0)) (dr_val (de_neg (de_int)) (dr_val (de_int) (dr_nil))))) (DLs.cons (lamT_by rfl rfl (by intros; rfl)) (fun _ _ _ _ _ _ _ hr => de_call OK_at_of (hr.mono (by decide)) Z.fat_of.g Z.fat_of.F.kp Z.fat_of.b (dr_val (de_var (i := 0)) (dr_val (de_int) (dr_val (de_neg (de_int)) (dr_nil))))) (DLs.cons (lamT_by rfl rfl (by intros; rfl)) (fun _ _ _ _ _ _ _ hr => de_call OK_kind_at (hr.mono (by decide)) Z.fkind_at.g Z.fkind_at.F.kp Z.fkind_at.b (dr_val (de_var (i := 0)) (dr_val (de_int) (dr_nil)))) (DLs.cons (lamT_by rfl rfl (by intros; rfl)) (fun _ _ _ _ _ _ _ hr => de_call OK_kind_at (hr.mono (by decide)) Z.fkind_at.g Z.fkind_at.F.kp Z.fkind_at.b (dr_val (de_var (i := 0)) (dr_val (de_neg (de_int)) (dr_nil)))) (DLs.cons (lamT_by rfl rfl (by intros; rfl)) (fun _ _ _ _ _ _ _ hr => de_call OK_word_at (hr.mono (by decide)) Z.fword_at.g Z.fword_at.F.kp Z.fword_at.b (dr_val (de_var (i := 0)) (dr_val (de_int) (dr_nil)))) (DLs.cons (lamT_by rfl rfl (by intros; rfl)) (fun _ _ _ _ _ _ _ hr => de_call OK_next_word (hr.mono (by decide)) Z.fnext_word.g Z.fnext_word.F.kp Z.fnext_word.b (dr_val (de_var (i := 0)) (dr_val (de_neg (de_int)) (dr_nil)))) (DLs.cons (lamT_by rfl rfl (by intros; rfl)) (fun _ _ _ _ _ _ _ hr => de_call OK_last_word (hr.mono (by decide)) Z.flast_word.g Z.flast_word.F.kp Z.flast_word.b (dr_val (de_var (i := 0)) (dr_val (de_int) (dr_nil)))) (DLs.cons (lamT_by rfl rfl (by intros; rfl)) (fun _ _ _ _ _ _ _ hr => de_call OK_up_or_down (hr.mono (by decide)) Z.fup_or_down.g Z.fup_or_down.F.kp Z.fup_or_down.b (dr_val (de_var (i := 0)) (dr_val (de_int) (dr_val (de_int) (dr_val (de_int) (dr_nil)))))) (DLs.cons (lamT_by rfl rfl (by intros; rfl)) (fun _ _ _ _ _ _ _ hr => de_call OK_up_or_down (hr.mono (by decide)) Z.fup_or_down.g Z.fup_or_down.F.kp Z.fup_or_down.b (dr_val (de_var (i := 0)) (dr_val (de_int) (dr_val (de_int) (dr_val (de_neg (de_int)) (dr_nil)))))) (DLs.cons (lamT_by rfl rfl (by intros; rfl)) (fun _ _ _ _ _ _ _ hr => de_call OK_paragraph (hr.mono (by decide)) Z.fparagraph.g Z.fparagraph.F.kp Z.fparagraph.b (dr_val (de_var (i := 0)) (dr_val (de_int) (dr_nil)))) (DLs.nil))))))))))))))) (dw_or (dt_cmp (op_neD (room64 hr)) og_ne (de_len Z.n_len (de_gstr (l := g_LETTERS) Z.gLETTERS)) (de_int)) (dw_or1 (dt_cmp orD_notin (og_in (.inl rfl)) (de_str (l := [95])) (de_gstr (l := g_LETTERS) Z.gLETTERS) (hm := by with_unfolding_all rfl)))) (dss_one (ds_ret (de_bl))) (dss_cons (ds_if (DW.dt (dw_or (dt_cmp (op_neD (room64 hr)) og_ne (de_len Z.n_len (de_gstr (l := [10]) Z.gEND)) (de_int)) (dw_or (dt_cmp (op_neD (room64 hr)) og_ne (de_call OK_row_and_column (hr.mono (by decide)) Z.frow_and_column.g Z.frow_and_column.F.kp Z.frow_and_column.b (dr_val (de_var (i := 0)) (dr_val (de_int) (dr_nil)))) (de_tup (da_cons (de_int) (da_cons (de_int) (da_nil))))) (dw_or1 (dt_cmp (op_neD (room64 hr)) og_ne (de_call OK_at_of (hr.mono (by decide)) Z.fat_of.g Z.fat_of.F.kp Z.fat_of.b (dr_val (de_var (i := 0)) (dr_val (de_int) (dr_val (de_int) (dr_nil))))) (de_int)))))) (dss_one (ds_ret (de_bl))) (dss_nil)) (dss_cons (ds_if (dt_not (DW.dt (dw_and (dt_cmp (op_eqD (room64 hr)) og_eq (de_call OK_word_at (hr.mono (by decide)) Z.fword_at.g Z.fword_at.F.kp Z.fword_at.b (dr_val (de_var (i := 0)) (dr_val (de_int) (dr_nil)))) (de_tup (da_cons (de_int) (da_cons (de_int) (da_nil))))) (dw_and (dt_cmp (op_eqD (room64 hr)) og_eq (de_call OK_next_word (hr.mono (by decide)) Z.fnext_word.g Z.fnext_word.F.kp Z.fnext_word.b (dr_val (de_var (i := 0)) (dr_val (de_int) (dr_nil)))) (de_int)) (dw_and1 (dt_cmp (op_eqD (room64 hr)) og_eq (de_call OK_next_word (hr.mono (by decide)) Z.fnext_word.g Z.fnext_word.F.kp Z.fnext_word.b (dr_val (de_var (i := 0)) (dr_val (de_int) (dr_nil)))) (de_int))))))) (dss_one (ds_ret (de_bl))) (dss_nil)) (dss_one (ds_ret (de_and (de_cmp (op_eqD (room64 hr)) og_eq (de_call OK_last_word (hr.mono (by decide)) Z.flast_word.g Z.flast_word.F.kp Z.flast_word.b (dr_val (de_var (i := 0)) (dr_val (de_int) (dr_nil)))) (de_int)) (de_and (de_cmp (op_eqD (room64 hr)) og_eq (de_call OK_up_or_down (hr.mono (by decide)) Z.fup_or_down.g Z.fup_or_down.F.kp Z.fup_or_down.b (dr_val (de_var (i := 0)) (dr_val (de_int) (dr_val (de_int) (dr_val (de_int) (dr_nil)))))) (de_int)) (de_and (de_cmp (op_eqD (room64 hr)) og_eq (de_call OK_paragraph (hr.mono (by decide)) Z.fparagraph.g Z.fparagraph.F.kp Z.fparagraph.b (dr_val (de_var (i := 0)) (dr_val (de_int) (dr_nil)))) (de_tup (da_cons (de_int) (da_cons (de_int) (da_nil))))) (de_and (de_cmp (op_eqD (room64 hr)) og_eq (de_call OK_counted (hr.mono (by decide)) Z.fcounted.g Z.fcounted.F.kp Z.fcounted.b (dr_val (de_var (i := 0)) (dr_nil))) (de_tup (da_cons (de_int) (da_cons (de_int) (da_cons (de_int) (da_cons (de_int) (da_nil))))))) (de_and (de_cmp (op_eqD (room64 hr)) og_eq (de_call OK_rows_of (hr.mono (by decide)) Z.frows_of.g Z.frows_of.F.kp Z.frows_of.b (dr_val (de_str (l := [])) (dr_nil))) (de_tup (da_cons (de_str (l := [])) (da_nil)))) (de_one (de_cmp (op_eqD (room64 hr)) og_eq (de_call OK_kind_at (hr.mono (by decide)) Z.fkind_at.g Z.fkind_at.F.kp Z.fkind_at.b (dr_val (de_var (i := 0)) (dr_val (de_int) (dr_nil)))) (de_str (l := [115, 105, 103, 110]))))))))))))))
def b_law : Rho → Fl := sS (sForF 1 (fCall [none, none] m__law_rounds (fCons (fVar 0) (fCons (fC (.int 1)) (fNil)))) (sS (sSet 2 (fCall [some 1, none] m__law_text (fRef 1 (fCons (fC (.int 30)) (fNil))))) (sS (sSet 3 (fCall [none] m__law_rows (fCons (fVar 2) (fNil)))) (sS (sSet 4 (fLc .S [6] (fItA rg1D (fCons (fn1 lenN (fVar 3)) (fNil))) (bNm 6) (fYes) (fn1 sumD (fLc .S [5] (fIt lstO (fSl .S (fVar 3) (fNo) (fPart (fVar 6)))) (bNm 5) (fYes) (m2 (addD .S) (fn1 lenN (fVar 5)) (fC (.int 1))))))) (sS (sIf (fOr (fB (m2 neD (fn1 (listD .S) (fCall [none] m_rows_of (fCons (fVar 2) (fNil)))) (fVar 3))) (fB (m2 neD (fn1 (listD .S) (fCall [none] m_starts_of (fCons (fVar 2) (fNil)))) (fVar 4)))) (sRet (fC (.bl false))) (sNx)) (sS (sIf (fB (m2 neD (fLc .S [7] (fItA rg1D (fCons (fn1 lenN (fVar 2)) (fNil))) (bNm 7) (fYes) (fCall [none, none] m_kind_at (fCons (fVar 2) (fCons (fVar 7) (fNil))))) (fLc .S [8] (fIt strO (fVar 2)) (bNm 8) (fYes) (fCall [none] m__law_kind (fCons (fVar 8) (fNil)))))) (sRet (fC (.bl false))) (sNx)) (sS (sFor (fItA rg1D (fCons (m2 (addD .S) (fn1 lenN (fVar 2)) (fC (.int 1))) (fNil))) (bNm 7) (sS (sSet 5 (fn1 maxD (fLc .S [6] (fItA rg1D (fCons (fn1 lenN (fVar 3)) (fNil))) (bNm 6) (fB (m2 leD (m2 ixD (fVar 4) (fVar 6)) (fVar 7))) (fVar 6)))) (sS (sIf (fOr (fB (m2 neD (fCall [none, none] m_row_and_column (fCons (fVar 2) (fCons (fVar 7) (fNil)))) (fTup (fCons (fVar 5) (fCons (m2 subD (fVar 7) (m2 ixD (fVar 4) (fVar 5))) (fNil)))))) (fB (m2 neD (fCall [none, none, none] m_at_of (fCons (fVar 2) (fCons (fVar 5) (fCons (m2 subD (fVar 7) (m2 ixD (fVar 4) (fVar 5))) (fNil))))) (fVar 7)))) (sRet (fC (.bl false))) (sNx)) (sS (sSet 9 (fn1 minD (fLc .S [6] (fItA rg1D (fCons (m2 (addD .S) (fVar 7) (fC (.int 1))) (fNil))) (bNm 6) (fB (m2 eqD (fLc .S [8] (fIt strO (fSl .S (fVar 2) (fPart (fVar 6)) (fPart (fVar 7)))) (bNm 8) (fB (m2 (inD true) (fVar 8) (fC (.str g_LETTERS)))) (fVar 8)) (fLst .S (fNil)))) (fVar 6)))) (sS (sSet 10 (fn1 maxD (fLc .S [6] (fItA rg2D (fCons (fVar 7) (fCons (m2 (addD .S) (fn1 lenN (fVar 2)) (fC (.int 1))) (fNil)))) (bNm 6) (fB (m2 eqD (fLc .S [8] (fIt strO (fSl .S (fVar 2) (fPart (fVar 7)) (fPart (fVar 6)))) (bNm 8) (fB (m2 (inD true) (fVar 8) (fC (.str g_LETTERS)))) (fVar 8)) (fLst .S (fNil)))) (fVar 6)))) (sS (sIf (fB (m2 neD (fCall [none, none] m_word_at (fCons (fVar 2) (fCons (fVar 7) (fNil)))) (fTup (fCons (fVar 9) (fCons (fVar 10) (fNil)))))) (sRet (fC (.bl false))) (sNx)) (sS (sSet 11 (fVar 7)) (sS (whileL (fAnd (fB (m2 ltD (fVar 11) (fn1 lenN (fVar 2)))) (fAnd (fB (m2 geD (fVar 11) (fVar 7))) (fAnd (fB (m2 neD (fCall [none] m__law_kind (fCons (m2 ixD (fVar 2) (fVar 7)) (fNil))) (fC (.str [115, 112, 97, 99, 101])))) (fB (m2 eqD (fCall [none] m__law_kind (fCons (m2 ixD (fVar 2) (fVar 11)) (fNil))) (fCall [none] m__law_kind (fCons (m2 ixD (fVar 2) (fVar 7)) (fNil)))))))) (sSet 11 (m2 (addD .S) (fVar 11) (fC (.int 1)))) 1000000) (sS (sSet 12 (m2 (addD .S) (fLc .S [6] (fItA rg2D (fCons (fVar 11) (fCons (fn1 lenN (fVar 2)) (fNil)))) (bNm 6) (fB (m2 neD (fCall [none] m__law_kind (fCons (m2 ixD (fVar 2) (fVar 6)) (fNil))) (fC (.str [115, 112, 97, 99, 101])))) (fVar 6)) (fLst .S (fCons (fn1 lenN (fVar 2)) (fNil))))) (sS (sIf (fB (m2 neD (fCall [none, none] m_next_word (fCons (fVar 2) (fCons (fVar 7) (fNil)))) (m2 ixD (fVar 12) (fC (.int 0))))) (sRet (fC (.bl false))) (sNx)) (sS (sSet 13 (fLc .S [6] (fItA rg1D (fCons (fVar 7) (fNil))) (bNm 6) (fB (m2 neD (fCall [none] m__law_kind (fCons (m2 ixD (fVar 2) (fVar 6)) (fNil))) (fC (.str [115, 112, 97, 99, 101])))) (fVar 6))) (sS (sSet 14 (fLc .S [6] (fIt lstO (fVar 13)) (bNm 6) (fB (m2 eqD (fLc .S [8] (fIt strO (fSl .S (fVar 2) (fPart (fVar 6)) (fPart (m2 (addD .S) (m2 ixD (fVar 13) (fn1 negD (fC (.int 1)))) (fC (.int 1)))))) (bNm 8) (fB (m2 neD (fCall [none] m__law_kind (fCons (fVar 8) (fNil))) (fCall [none] m__law_kind (fCons (m2 ixD (fVar 2) (m2 ixD (fVar 13) (fn1 negD (fC (.int 1))))) (fNil))))) (fVar 8)) (fLst .S (fNil)))) (fVar 6))) (sS (sIf (fB (m2 neD (fCall [none, none] m_last_word (fCons (fVar 2) (fCons (fVar 7) (fNil)))) (fIf (fB (m2 neD (fVar 14) (fLst .S (fNil)))) (m2 ixD (fVar 14) (fC (.int 0))) (fC (.int 0))))) (sRet (fC (.bl false))) (sNx)) (sS (sPar2 15 16 (fCons (fVar 5) (fCons (fVar 5) (fNil)))) (sS (whileL (fAnd (fNot (fB (fCall [none] m__law_bare (fCons (m2 ixD (fVar 3) (fVar 5)) (fNil))))) (fAnd (fB (m2 gtD (fVar 15) (fC (.int 0)))) (fNot (fB (fCall [none] m__law_bare (fCons (m2 ixD (fVar 3) (m2 subD (fVar 15) (fC (.int 1)))) (fNil))))))) (sSet 15 (m2 subD (fVar 15) (fC (.int 1)))) 1000000) (sS (whileL (fAnd (fNot (fB (fCall [none] m__law_bare (fCons (m2 ixD (fVar 3) (fVar 5)) (fNil))))) (fAnd (fB (m2 ltD (fVar 16) (m2 subD (fn1 lenN (fVar 3)) (fC (.int 1))))) (fNot (fB (fCall [none] m__law_bare (fCons (m2 ixD (fVar 3) (m2 (addD .S) (fVar 16) (fC (.int 1)))) (fNil))))))) (sSet 16 (m2 (addD .S) (fVar 16) (fC (.int 1)))) 1000000) (sS (sIf (fB (m2 neD (fCall [none, none] m_paragraph (fCons (fVar 2) (fCons (fVar 7) (fNil)))) (fTup (fCons (fVar 15) (fCons (fVar 16) (fNil)))))) (sRet (fC (.bl false))) (sNx)) (sS (sPar2 17 18 (fCons (m2 subD (fCall [some 1, none] m__law_roll (fRef 1 (fCons (fC (.int 7)) (fNil)))) (fC (.int 3))) (fCons (fCall [some 1, none] m__law_roll (fRef 1 (fCons (fC (.int 8)) (fNil)))) (fNil)))) (sS (sSet 19 (m2 min2D (m2 subD (fn1 lenN (fVar 3)) (fC (.int 1))) (m2 max2D (fC (.int 0)) (m2 (addD .S) (fVar 5) (fVar 17))))) (sIf (fB (m2 neD (fCall [none, none, none, none] m_up_or_down (fCons (fVar 2) (fCons (fVar 7) (fCons (fVar 17) (fCons (fVar 18) (fNil)))))) (m2 (addD .S) (m2 ixD (fVar 4) (fVar 19)) (m2 min2D (fVar 18) (fn1 lenN (m2 ixD (fVar 3) (fVar 19))))))) (sRet (fC (.bl false))) (sNx))))))))))))))))))))) (sS (sAsg (fTup (fCons (fCall [some 1, none] m__law_roll (fRef 1 (fCons (m2 (addD .S) (fn1 lenN (fVar 3)) (fC (.int 1))) (fNil)))) (fCons (fCall [some 1, none] m__law_roll (fRef 1 (fCons (fC (.int 12)) (fNil)))) (fNil)))) (bTup 2 (bCons (bNm 5) (bCons (bNm 20) (bNil))))) (sS (sIf (fB (m2 neD (fTold okT [80, 108, 97, 99, 101, 69, 114, 114, 111, 114] (fCall [none, none, none] m_at_of (fCons (fVar 2) (fCons (fVar 5) (fCons (fVar 20) (fNil)))))) (fIf (fB (m2 ltD (fVar 5) (fn1 lenN (fVar 3)))) (m2 (addD .S) (m2 ixD (fVar 4) (fVar 5)) (m2 min2D (fVar 20) (fn1 lenN (m2 ixD (fVar 3) (fVar 5))))) (fC (.str [80, 108, 97, 99, 101, 69, 114, 114, 111, 114]))))) (sRet (fC (.bl false))) (sNx)) (sS (sSet 21 (fn1 lenN (fLc .S [6] (fItA rg1D (fCons (fn1 lenN (fVar 2)) (fNil))) (bNm 6) (fAnd (fB (m2 (inD false) (m2 ixD (fVar 2) (fVar 6)) (fC (.str g_LETTERS)))) (fOr (fB (m2 eqD (fVar 6) (fC (.int 0)))) (fB (m2 (inD true) (m2 ixD (fVar 2) (m2 subD (fVar 6) (fC (.int 1)))) (fC (.str g_LETTERS)))))) (fVar 6)))) (sIf (fB (m2 neD (fCall [none] m_counted (fCons (fVar 2) (fNil))) (fTup (fCons (fn1 lenN (fVar 2)) (fCons (fVar 21) (fCons (fn1 lenN (fVar 3)) (fCons (fn1 maxD (fLc .S [22] (fIt lstO (fVar 3)) (bNm 22) (fYes) (fn1 lenN (fVar 22)))) (fNil)))))))) (sRet (fC (.bl false))) (sNx)))))))))))) (sRet (fCall [] m__law_plain fNil))
def N_law : List Str := ["script", "dice", "text", "rows", "starts", "row", "k", "at", "sign", "first", "last", "here", "ready", "full", "back", "low", "high", "down", "wish", "goal", "column", "words", "one"]
def m_law : List D → Out D := runB 23 b_law
theorem sc_law : FnScope N_law ["script"] (defScope s_law) := ⟨rfl, rfl, rfl, by decide +kernel, rfl, by decide +kernel, by decide +kernel⟩
theorem ok_law (Z : Txt K mg T a d tk tc tp) (B : ∀ i, LamX.TabB base mg (tc i) (tp i)) : FnOk P w K mg base (L2.CX P w) 11 (a 21) (d 21) ["script"] (spD K T N_law 1 [0, 1, 0, 0, 0, 0, 0, 0, 0, 0, 0, 0, 0, 0, 0, 0, 0, 0, 0, 0, 0, 0, 0] .S m_law) := by
  have OK__law_bare := ok__law_bare (P := P) (w := w) (base := base) Z B
  have OK__law_kind := ok__law_kind (P := P) (w := w) (base := base) Z B
  have OK__law_plain := ok__law_plain (P := P) (w := w) (base := base) Z B
  have OK__law_roll := ok__law_roll (P := P) (w := w) (base := base) Z B
  have OK__law_rounds := ok__law_rounds (P := P) (w := w) (base := base) Z B
  have OK__law_rows := ok__law_rows (P := P) (w := w) (base := base) Z B
  have OK__law_text := ok__law_text (P := P) (w := w) (base := base) Z B
  have OK_at_of := ok_at_of (P := P) (w := w) (base := base) Z B
  have OK_counted := ok_counted (P := P) (w := w) (base := base) Z B
  have OK_kind_at := ok_kind_at (P := P) (w := w) (base := base) Z B
  have OK_last_word := ok_last_word (P := P) (w := w) (base := base) Z B
  have OK_next_word := ok_next_word (P := P) (w := w) (base := base) Z B
  have OK_paragraph := ok_paragraph (P := P) (w := w) (base := base) Z B
  have OK_row_and_column := ok_row_and_column (P := P) (w := w) (base := base) Z B
  have OK_rows_of := ok_rows_of (P := P) (w := w) (base := base) Z B
  have OK_starts_of := ok_starts_of (P := P) (w := w) (base := base) Z B
  have OK_up_or_down := ok_up_or_down (P := P) (w := w) (base := base) Z B
  have OK_word_at := ok_word_at (P := P) (w := w) (base := base) Z B
  have hN := sc_law.nd
  refine fn_DC Z.claw sc_law rfl (.inl rfl) fun A outer s H E hr => ?_
  exact dss_cons (ds_forF (i := 1) (L2.passes_of rfl) (de_call OK__law_rounds (hr.mono (by decide)) Z.f_law_rounds.g Z.f_law_rounds.F.kp Z.f_law_rounds.b (dr_val (de_var (i := 0)) (dr_val (de_int) (dr_nil)))) (dss_cons (ds_set (i := 2) (de_call OK__law_text (hr.mono (by decide)) Z.f_law_text.g Z.f_law_text.F.kp Z.f_law_text.b (dr_ref (i := 1) (dr_val (de_int) (dr_nil)))) (hN := hN)) (dss_cons (ds_set (i := 3) (de_call OK__law_rows (hr.mono (by decide)) Z.f_law_rows.g Z.f_law_rows.F.kp Z.f_law_rows.b (dr_val (de_var (i := 2)) (dr_nil))) (hN := hN)) (dss_cons (ds_set (i := 4) (de_lc (own := [("k", 6)]) hN (di_rng1 (da_cons (de_len Z.n_len (de_var (i := 3))) (da_nil)) Z.n_range) (fun _ _ _ _ _ => dg_nm (i := 6) hN) (fun _ _ _ _ _ => dts_nil) (fun _ _ _ _ _ => de_sum Z.n_sum (de_lc (own := [("row", 5)]) hN (di_lst (de_sl (.inl rfl) (.inl rfl) (de_var (i := 3)) (do_no) (do_some (de_var (i := 6))))) (fun _ _ _ _ _ => dg_nm (i := 5) hN) (fun _ _ _ _ _ => dts_nil) (fun _ _ _ _ _ => de_op op_addD (og_add (.inl rfl)) (de_len Z.n_len (de_var (i := 5))) (de_int))))) (hN := hN)) (dss_cons (ds_if (DW.dt (dw_or (dt_cmp (op_neD (room64 hr)) og_ne (de_listc Z.n_list (de_call OK_rows_of (hr.mono (by decide)) Z.frows_of.g Z.frows_of.F.kp Z.frows_of.b (dr_val (de_var (i := 2)) (dr_nil)))) (de_var (i := 3))) (dw_or1 (dt_cmp (op_neD (room64 hr)) og_ne (de_listc Z.n_list (de_call OK_starts_of (hr.mono (by decide)) Z.fstarts_of.g Z.fstarts_of.F.kp Z.fstarts_of.b (dr_val (de_var (i := 2)) (dr_nil)))) (de_var (i := 4)))))) (dss_one (ds_ret (de_bl))) (dss_nil)) (dss_cons (ds_if (dt_cmp (op_neD (room64 hr)) og_ne (de_lc (own := [("at", 7)]) hN (di_rng1 (da_cons (de_len Z.n_len (de_var (i := 2))) (da_nil)) Z.n_range) (fun _ _ _ _ _ => dg_nm (i := 7) hN) (fun _ _ _ _ _ => dts_nil) (fun _ _ _ _ _ => de_call OK_kind_at (hr.mono (by decide)) Z.fkind_at.g Z.fkind_at.F.kp Z.fkind_at.b (dr_val (de_var (i := 2)) (dr_val (de_var (i := 7)) (dr_nil))))) (de_lc (own := [("sign", 8)]) hN (di_str (de_var (i := 2))) (fun _ _ _ _ _ => dg_nm (i := 8) hN) (fun _ _ _ _ _ => dts_nil) (fun _ _ _ _ _ => de_call OK__law_kind (hr.mono (by decide)) Z.f_law_kind.g Z.f_law_kind.F.kp Z.f_law_kind.b (dr_val (de_var (i := 8)) (dr_nil))))) (dss_one (ds_ret (de_bl))) (dss_nil)) (dss_cons (ds_for (L2.passes_of rfl) (di_rng1 (da_cons (de_op op_addD (og_add (.inl rfl)) (de_len Z.n_len (de_var (i := 2))) (de_int)) (da_nil)) Z.n_range) (dg_nm (i := 7) hN) (dss_cons (ds_set (i := 5) (de_max Z.n_max (de_lc (own := [("k", 6)]) hN (di_rng1 (da_cons (de_len Z.n_len (de_var (i := 3))) (da_nil)) Z.n_range) (fun _ _ _ _ _ => dg_nm (i := 6) hN) (fun _ _ _ _ _ => dts_one (dt_cmp orD_le og_le (de_ix (de_var (i := 4)) (de_var (i := 6))) (de_var (i := 7)))) (fun _ _ _ _ _ => de_var (i := 6)))) (hN := hN)) (dss_cons (ds_if (DW.dt (dw_or (dt_cmp (op_neD (room64 hr)) og_ne (de_call OK_row_and_column (hr.mono (by decide)) Z.frow_and_column.g Z.frow_and_column.F.kp Z.frow_and_column.b (dr_val (de_var (i := 2)) (dr_val (de_var (i := 7)) (dr_nil)))) (de_tup (da_cons (de_var (i := 5)) (da_cons (de_op op_sub og_sub (de_var (i := 7)) (de_ix (de_var (i := 4)) (de_var (i := 5)))) (da_nil))))) (dw_or1 (dt_cmp (op_neD (room64 hr)) og_ne (de_call OK_at_of (hr.mono (by decide)) Z.fat_of.g Z.fat_of.F.kp Z.fat_of.b (dr_val (de_var (i := 2)) (dr_val (de_var (i := 5)) (dr_val (de_op op_sub og_sub (de_var (i := 7)) (de_ix (de_var (i := 4)) (de_var (i := 5)))) (dr_nil))))) (de_var (i := 7)))))) (dss_one (ds_ret (de_bl))) (dss_nil)) (dss_cons (ds_set (i := 9) (de_min Z.n_min (de_lc (own := [("k", 6)]) hN (di_rng1 (da_cons (de_op op_addD (og_add (.inl rfl)) (de_var (i := 7)) (de_int)) (da_nil)) Z.n_range) (fun _ _ _ _ _ => dg_nm (i := 6) hN) (fun _ _ _ _ _ => dts_one (dt_cmp (op_eqD (room64 hr)) og_eq (de_lc (own := [("sign", 8)]) hN (di_str (de_sl (.inl rfl) (.inl rfl) (de_var (i := 2)) (do_some (de_var (i := 6))) (do_some (de_var (i := 7))))) (fun _ _ _ _ _ => dg_nm (i := 8) hN) (fun _ _ _ _ _ => dts_one (dt_cmp orD_notin (og_in (.inl rfl)) (de_var (i := 8)) (de_gstr (l := g_LETTERS) Z.gLETTERS) (hm := by with_unfolding_all rfl))) (fun _ _ _ _ _ => de_var (i := 8))) (de_lst (.inl rfl) (da_nil)))) (fun _ _ _ _ _ => de_var (i := 6)))) (hN := hN)) (dss_cons (ds_set (i := 10) (de_max Z.n_max (de_lc (own := [("k", 6)]) hN (di_rng2 (da_cons (de_var (i := 7)) (da_cons (de_op op_addD (og_add (.inl rfl)) (de_len Z.n_len (de_var (i := 2))) (de_int)) (da_nil))) Z.n_range) (fun _ _ _ _ _ => dg_nm (i := 6) hN) (fun _ _ _ _ _ => dts_one (dt_cmp (op_eqD (room64 hr)) og_eq (de_lc (own := [("sign", 8)]) hN (di_str (de_sl (.inl rfl) (.inl rfl) (de_var (i := 2)) (do_some (de_var (i := 7))) (do_some (de_var (i := 6))))) (fun _ _ _ _ _ => dg_nm (i := 8) hN) (fun _ _ _ _ _ => dts_one (dt_cmp orD_notin (og_in (.inl rfl)) (de_var (i := 8)) (de_gstr (l := g_LETTERS) Z.gLETTERS) (hm := by with_unfolding_all rfl))) (fun _ _ _ _ _ => de_var (i := 8))) (de_lst (.inl rfl) (da_nil)))) (fun _ _ _ _ _ => de_var (i := 6)))) (hN := hN)) (dss_cons (ds_if (dt_cmp (op_neD (room64 hr)) og_ne (de_call OK_word_at (hr.mono (by decide)) Z.fword_at.g Z.fword_at.F.kp Z.fword_at.b (dr_val (de_var (i := 2)) (dr_val (de_var (i := 7)) (dr_nil)))) (de_tup (da_cons (de_var (i := 9)) (da_cons (de_var (i := 10)) (da_nil))))) (dss_one (ds_ret (de_bl))) (dss_nil)) (dss_cons (ds_set (i := 11) (de_var (i := 7)) (hN := hN)) (dss_cons (ds_while 1000000 (L2.passes_of rfl) (DW.dt (dw_and (dt_cmp orD_lt og_lt (de_var (i := 11)) (de_len Z.n_len (de_var (i := 2)))) (dw_and (dt_cmp orD_ge og_ge (de_var (i := 11)) (de_var (i := 7))) (dw_and (dt_cmp (op_neD (room64 hr)) og_ne (de_call OK__law_kind (hr.mono (by decide)) Z.f_law_kind.g Z.f_law_kind.F.kp Z.f_law_kind.b (dr_val (de_ix (de_var (i := 2)) (de_var (i := 7))) (dr_nil))) (de_str (l := [115, 112, 97, 99, 101]))) (dw_and1 (dt_cmp (op_eqD (room64 hr)) og_eq (de_call OK__law_kind (hr.mono (by decide)) Z.f_law_kind.g Z.f_law_kind.F.kp Z.f_law_kind.b (dr_val (de_ix (de_var (i := 2)) (de_var (i := 11))) (dr_nil))) (de_call OK__law_kind (hr.mono (by decide)) Z.f_law_kind.g Z.f_law_kind.F.kp Z.f_law_kind.b (dr_val (de_ix (de_var (i := 2)) (de_var (i := 7))) (dr_nil))))))))) (dss_one (ds_set (i := 11) (de_op op_addD (og_add (.inl rfl)) (de_var (i := 11)) (de_int)) (hN := hN)))) (dss_cons (ds_set (i := 12) (de_op op_addD (og_add (.inl rfl)) (de_lc (own := [("k", 6)]) hN (di_rng2 (da_cons (de_var (i := 11)) (da_cons (de_len Z.n_len (de_var (i := 2))) (da_nil))) Z.n_range) (fun _ _ _ _ _ => dg_nm (i := 6) hN) (fun _ _ _ _ _ => dts_one (dt_cmp (op_neD (room64 hr)) og_ne (de_call OK__law_kind (hr.mono (by decide)) Z.f_law_kind.g Z.f_law_kind.F.kp Z.f_law_kind.b (dr_val (de_ix (de_var (i := 2)) (de_var (i := 6))) (dr_nil))) (de_str (l := [115, 112, 97, 99, 101])))) (fun _ _ _ _ _ => de_var (i := 6))) (de_lst (.inl rfl) (da_cons (de_len Z.n_len (de_var (i := 2))) (da_nil)))) (hN := hN)) (dss_cons (ds_if (dt_cmp (op_neD (room64 hr)) og_ne (de_call OK_next_word (hr.mono (by decide)) Z.fnext_word.g Z.fnext_word.F.kp Z.fnext_word.b (dr_val (de_var (i := 2)) (dr_val (de_var (i := 7)) (dr_nil)))) (de_ix (de_var (i := 12)) (de_int))) (dss_one (ds_ret (de_bl))) (dss_nil)) (dss_cons (ds_set (i := 13) (de_lc (own := [("k", 6)]) hN (di_rng1 (da_cons (de_var (i := 7)) (da_nil)) Z.n_range) (fun _ _ _ _ _ => dg_nm (i := 6) hN) (fun _ _ _ _ _ => dts_one (dt_cmp (op_neD (room64 hr)) og_ne (de_call OK__law_kind (hr.mono (by decide)) Z.f_law_kind.g Z.f_law_kind.F.kp Z.f_law_kind.b (dr_val (de_ix (de_var (i := 2)) (de_var (i := 6))) (dr_nil))) (de_str (l := [115, 112, 97, 99, 101])))) (fun _ _ _ _ _ => de_var (i := 6))) (hN := hN)) (dss_cons (ds_setLc (i := 14) (own := [("k", 6)]) hN (di_lst (de_var (i := 13))) (fun _ _ _ _ _ => dg_nm (i := 6) hN) (fun _ _ _ _ _ => dts_one (dt_cmp (op_eqD (room64 hr)) og_eq (de_lc (own := [("sign", 8)]) hN (di_str (de_sl (.inl rfl) (.inl rfl) (de_var (i := 2)) (do_some (de_var (i := 6))) (do_some (de_op op_addD (og_add (.inl rfl)) (de_ix (de_var (i := 13)) (de_neg (de_int))) (de_int))))) (fun _ _ _ _ _ => dg_nm (i := 8) hN) (fun _ _ _ _ _ => dts_one (dt_cmp (op_neD (room64 hr)) og_ne (de_call OK__law_kind (hr.mono (by decide)) Z.f_law_kind.g Z.f_law_kind.F.kp Z.f_law_kind.b (dr_val (de_var (i := 8)) (dr_nil))) (de_call OK__law_kind (hr.mono (by decide)) Z.f_law_kind.g Z.f_law_kind.F.kp Z.f_law_kind.b (dr_val (de_ix (de_var (i := 2)) (de_ix (de_var (i := 13)) (de_neg (de_int)))) (dr_nil))))) (fun _ _ _ _ _ => de_var (i := 8))) (de_lst (.inl rfl) (da_nil)))) (fun _ _ _ _ _ => de_var (i := 6))) (dss_cons (ds_if (dt_cmp (op_neD (room64 hr)) og_ne (de_call OK_last_word (hr.mono (by decide)) Z.flast_word.g Z.flast_word.F.kp Z.flast_word.b (dr_val (de_var (i := 2)) (dr_val (de_var (i := 7)) (dr_nil)))) (de_if (dt_cmp (op_neD (room64 hr)) og_ne (de_var (i := 14)) (de_lst (.inl rfl) (da_nil))) (de_ix (de_var (i := 14)) (de_int)) (de_int))) (dss_one (ds_ret (de_bl))) (dss_nil)) (dss_cons (ds_par2 (i := 15) (j := 16) (da_cons (de_var (i := 5)) (da_cons (de_var (i := 5)) (da_nil))) hN) (dss_cons (ds_while 1000000 (L2.passes_of rfl) (DW.dt (dw_and (dt_not (dt_val (de_call OK__law_bare (hr.mono (by decide)) Z.f_law_bare.g Z.f_law_bare.F.kp Z.f_law_bare.b (dr_val (de_ix (de_var (i := 3)) (de_var (i := 5))) (dr_nil))))) (dw_and (dt_cmp orD_gt og_gt (de_var (i := 15)) (de_int)) (dw_and1 (dt_not (dt_val (de_call OK__law_bare (hr.mono (by decide)) Z.f_law_bare.g Z.f_law_bare.F.kp Z.f_law_bare.b (dr_val (de_ix (de_var (i := 3)) (de_op op_sub og_sub (de_var (i := 15)) (de_int))) (dr_nil))))))))) (dss_one (ds_set (i := 15) (de_op op_sub og_sub (de_var (i := 15)) (de_int)) (hN := hN)))) (dss_cons (ds_while 1000000 (L2.passes_of rfl) (DW.dt (dw_and (dt_not (dt_val (de_call OK__law_bare (hr.mono (by decide)) Z.f_law_bare.g Z.f_law_bare.F.kp Z.f_law_bare.b (dr_val (de_ix (de_var (i := 3)) (de_var (i := 5))) (dr_nil))))) (dw_and (dt_cmp orD_lt og_lt (de_var (i := 16)) (de_op op_sub og_sub (de_len Z.n_len (de_var (i := 3))) (de_int))) (dw_and1 (dt_not (dt_val (de_call OK__law_bare (hr.mono (by decide)) Z.f_law_bare.g Z.f_law_bare.F.kp Z.f_law_bare.b (dr_val (de_ix (de_var (i := 3)) (de_op op_addD (og_add (.inl rfl)) (de_var (i := 16)) (de_int))) (dr_nil))))))))) (dss_one (ds_set (i := 16) (de_op op_addD (og_add (.inl rfl)) (de_var (i := 16)) (de_int)) (hN := hN)))) (dss_cons (ds_if (dt_cmp (op_neD (room64 hr)) og_ne (de_call OK_paragraph (hr.mono (by decide)) Z.fparagraph.g Z.fparagraph.F.kp Z.fparagraph.b (dr_val (de_var (i := 2)) (dr_val (de_var (i := 7)) (dr_nil)))) (de_tup (da_cons (de_var (i := 15)) (da_cons (de_var (i := 16)) (da_nil))))) (dss_one (ds_ret (de_bl))) (dss_nil)) (dss_cons (ds_par2 (i := 17) (j := 18) (da_cons (de_op op_sub og_sub (de_call OK__law_roll (hr.mono (by decide)) Z.f_law_roll.g Z.f_law_roll.F.kp Z.f_law_roll.b (dr_ref (i := 1) (dr_val (de_int) (dr_nil)))) (de_int)) (da_cons (de_call OK__law_roll (hr.mono (by decide)) Z.f_law_roll.g Z.f_law_roll.F.kp Z.f_law_roll.b (dr_ref (i := 1) (dr_val (de_int) (dr_nil)))) (da_nil))) hN) (dss_cons (ds_set (i := 19) (de_min2 Z.n_min (de_op op_sub og_sub (de_len Z.n_len (de_var (i := 3))) (de_int)) (de_max2 Z.n_max (de_int) (de_op op_addD (og_add (.inl rfl)) (de_var (i := 5)) (de_var (i := 17))))) (hN := hN)) (dss_one (ds_if (dt_cmp (op_neD (room64 hr)) og_ne (de_call OK_up_or_down (hr.mono (by decide)) Z.fup_or_down.g Z.fup_or_down.F.kp Z.fup_or_down.b (dr_val (de_var (i := 2)) (dr_val (de_var (i := 7)) (dr_val (de_var (i := 17)) (dr_val (de_var (i := 18)) (dr_nil)))))) (de_op op_addD (og_add (.inl rfl)) (de_ix (de_var (i := 4)) (de_var (i := 19))) (de_min2 Z.n_min (de_var (i := 18)) (de_len Z.n_len (de_ix (de_var (i := 3)) (de_var (i := 19))))))) (dss_one (ds_ret (de_bl))) (dss_nil)))))))))))))))))))))) (dss_cons (ds_asg (de_tup (da_cons (de_call OK__law_roll (hr.mono (by decide)) Z.f_law_roll.g Z.f_law_roll.F.kp Z.f_law_roll.b (dr_ref (i := 1) (dr_val (de_op op_addD (og_add (.inl rfl)) (de_len Z.n_len (de_var (i := 3))) (de_int)) (dr_nil)))) (da_cons (de_call OK__law_roll (hr.mono (by decide)) Z.f_law_roll.g Z.f_law_roll.F.kp Z.f_law_roll.b (dr_ref (i := 1) (dr_val (de_int) (dr_nil)))) (da_nil)))) (dg_tup (n := 2) (dg_cons (dg_nm (i := 5) hN) (dg_cons (dg_nm (i := 20) hN) (dg_nil))))) (dss_cons (ds_if (dt_cmp (op_neD (room64 hr)) og_ne (de_told (k := 7) (ok := okT) (rl := [80, 108, 97, 99, 101, 69, 114, 114, 111, 114]) (told_ok Z) (B 2) rfl (Z.mt2) (Z.ut2) (ex_ok Z) (hr.mono (by decide)) (fun _ _ _ _ _ _ _ hr => de_call OK_at_of (hr.mono (by decide)) Z.fat_of.g Z.fat_of.F.kp Z.fat_of.b (dr_val (de_var (i := 2)) (dr_val (de_var (i := 5)) (dr_val (de_var (i := 20)) (dr_nil)))))) (de_if (dt_cmp orD_lt og_lt (de_var (i := 5)) (de_len Z.n_len (de_var (i := 3)))) (de_op op_addD (og_add (.inl rfl)) (de_ix (de_var (i := 4)) (de_var (i := 5))) (de_min2 Z.n_min (de_var (i := 20)) (de_len Z.n_len (de_ix (de_var (i := 3)) (de_var (i := 5)))))) (de_str (l := [80, 108, 97, 99, 101, 69, 114, 114, 111, 114])))) (dss_one (ds_ret (de_bl))) (dss_nil)) (dss_cons (ds_set (i := 21) (de_len Z.n_len (de_lc (own := [("k", 6)]) hN (di_rng1 (da_cons (de_len Z.n_len (de_var (i := 2))) (da_nil)) Z.n_range) (fun _ _ _ _ _ => dg_nm (i := 6) hN) (fun _ _ _ _ _ => dts_one (DW.dt (dw_and (dt_cmp orD_in (og_in (.inl rfl)) (de_ix (de_var (i := 2)) (de_var (i := 6))) (de_gstr (l := g_LETTERS) Z.gLETTERS) (hm := by with_unfolding_all rfl)) (dw_and1 (DW.dt (dw_or (dt_cmp (op_eqD (room64 hr)) og_eq (de_var (i := 6)) (de_int)) (dw_or1 (dt_cmp orD_notin (og_in (.inl rfl)) (de_ix (de_var (i := 2)) (de_op op_sub og_sub (de_var (i := 6)) (de_int))) (de_gstr (l := g_LETTERS) Z.gLETTERS) (hm := by with_unfolding_all rfl))))))))) (fun _ _ _ _ _ => de_var (i := 6)))) (hN := hN)) (dss_one (ds_if (dt_cmp (op_neD (room64 hr)) og_ne (de_call OK_counted (hr.mono (by decide)) Z.fcounted.g Z.fcounted.F.kp Z.fcounted.b (dr_val (de_var (i := 2)) (dr_nil))) (de_tup (da_cons (de_len Z.n_len (de_var (i := 2))) (da_cons (de_var (i := 21)) (da_cons (de_len Z.n_len (de_var (i := 3))) (da_cons (de_max Z.n_max (de_lc (own := [("one", 22)]) hN (di_lst (de_var (i := 3))) (fun _ _ _ _ _ => dg_nm (i := 22) hN) (fun _ _ _ _ _ => dts_nil) (fun _ _ _ _ _ => de_len Z.n_len (de_var (i := 22))))) (da_nil))))))) (dss_one (ds_ret (de_bl))) (dss_nil)))))))))))) hN) (dss_one (ds_ret (de_call0 OK__law_plain (hr.mono (by decide)) Z.f_law_plain.g Z.f_law_plain.F.kp Z.f_law_plain.b)))
end

end Law
set_option Elab.async false
set_option linter.all false
set_option maxRecDepth 100000
set_option maxHeartbeats 400000
namespace Law
open PySem L2 Mir
def isW (c : Nat) : Bool := decide (c ∈ g_LETTERS)
def isB (c : Nat) : Bool := decide (c = 32) || decide (c = 10)
def sW : List Nat := [119, 111, 114, 100]
def sB : List Nat := [115, 112, 97, 99, 101]
def sG : List Nat := [115, 105, 103, 110]
def kd (c : Nat) : List Nat := if isW c then sW else if isB c then sB else sG
/-! rows -/
def hd1 (c : Nat) : List (List Nat) → List (List Nat)
  | [] => []
  | a :: l => (c :: a) :: l
def rws : List Nat → List (List Nat)
  | [] => [[]]
  | c :: t => if c = 10 then [] :: rws t else hd1 c (rws t)
def pre (a : List Nat) : List (List Nat) → List (List Nat)
  | [] => []
  | b :: l => (a ++ b) :: l
theorem rws_ne : ∀ t, rws t ≠ []
  | [] => by simp [rws]
  | c :: t => by
    have := rws_ne t
    unfold rws
    split
    · simp
    · cases h : rws t with
      | nil => exact absurd h this
      | cons a l => simp [hd1]
theorem pre_hd (a : List Nat) (c : Nat) (l : List (List Nat)) : pre (a ++ [c]) l = pre a (hd1 c l) := by
  cases l <;> simp [pre, hd1]
theorem pre_nil (l : List (List Nat)) : pre [] l = l := by cases l <;> simp [pre]
theorem spl_rws : ∀ (t acc : List Nat), TL.spl [10] 0 acc t = pre acc (rws t)
  | [], acc => by simp [TL.spl_nil, rws, pre]
  | c :: t, acc => by
    by_cases h : c = 10
    · subst h
      rw [TL.spl_hit (by simp [TL.pre])]
      show acc :: TL.spl [10] 0 [] t = _
      rw [spl_rws t, pre_nil]
      simp [rws, pre]
    · rw [TL.spl_miss (by simp [TL.pre, h]), spl_rws t, pre_hd]
      simp [rws, h]
def ext (f : List (List Nat)) (c : Nat) : List (List Nat) := if c = 10 then f ++ [[]] else f.dropLast ++ [(f.getLast?.getD []) ++ [c]]
theorem ext_rws : ∀ (t : List Nat) (f : List (List Nat)) (a : List Nat), t.foldl ext (f ++ [a]) = f ++ pre a (rws t)
  | [], f, a => by simp [rws, pre]
  | c :: t, f, a => by
    rw [List.foldl_cons]
    by_cases h : c = 10
    · subst h
      have : ext (f ++ [a]) 10 = (f ++ [a]) ++ [[]] := by simp [ext]
      rw [this, ext_rws t, pre_nil]
      simp [rws, pre]
    · have : ext (f ++ [a]) c = f ++ [a ++ [c]] := by simp [ext, h]
      rw [this, ext_rws t, pre_hd]
      simp [rws, h]
/-- where row k begins -/
def S : List (List Nat) → Nat → Nat
  | _, 0 => 0
  | [], _ => 0
  | a :: l, k + 1 => a.length + 1 + S l k
def cn : List Nat → Nat
  | [] => 0
  | c :: t => (if c = 10 then 1 else 0) + cn t
theorem cntL_cn : ∀ t, cntL 10 t = (cn t : Int)
  | [] => rfl
  | c :: t => by
    rw [cntL, cn, cntL_cn t]
    split <;> simp
theorem rws_len : ∀ t, (rws t).length = cn t + 1
  | [] => rfl
  | c :: t => by
    have := rws_len t
    unfold rws cn
    by_cases h : c = 10
    · rw [if_pos h, if_pos h, List.length_cons, this]; omega
    · rw [if_neg h, if_neg h]
      cases e : rws t with
      | nil => exact absurd e (rws_ne t)
      | cons a l => rw [e] at this; simpa [hd1] using this
theorem cn_le : ∀ t, cn t ≤ t.length
  | [] => Nat.le_refl _
  | c :: t => by
    have := cn_le t
    unfold cn
    rw [List.length_cons]; split <;> omega
theorem cn_take_le : ∀ (t : List Nat) (n : Nat), cn (t.take n) ≤ cn t
  | [], n => by simp
  | c :: t, 0 => by simp [cn]
  | c :: t, n + 1 => by
    have := cn_take_le t n
    rw [List.take_succ_cons, cn, cn]; omega
theorem S_hd (c : Nat) (l : List (List Nat)) (k : Nat) (h : l ≠ []) : S (hd1 c l) (k + 1) = S l (k + 1) + 1 := by
  cases l with
  | nil => exact absurd rfl h
  | cons a l => simp [hd1, S]; omega
theorem S_le_iff : ∀ (t : List Nat) (n k : Nat), n ≤ t.length → k < (rws t).length → (S (rws t) k ≤ n ↔ k ≤ cn (t.take n))
  | [], n, k, hn, hk => by
    have : k = 0 := by simpa [rws] using hk
    subst this
    simp [S]
  | c :: t, n, 0, hn, hk => by simp [S]
  | c :: t, 0, k + 1, hn, hk => by
    have : 0 < S (rws (c :: t)) (k + 1) := by
      cases e : rws (c :: t) with
      | nil => exact absurd e (rws_ne _)
      | cons a l => simp [S]; omega
    simp [cn]; omega
  | c :: t, n + 1, k + 1, hn, hk => by
    have hn' : n ≤ t.length := by simpa using hn
    rw [List.take_succ_cons, cn]
    by_cases h : c = 10
    · have e : rws (c :: t) = [] :: rws t := by simp [rws, h]
      rw [e] at hk ⊢
      have := S_le_iff t n k hn' (by simpa using hk)
      simp only [S, List.length_nil, h, if_true]
      omega
    · have e : rws (c :: t) = hd1 c (rws t) := by simp [rws, h]
      have hl : (hd1 c (rws t)).length = (rws t).length := by cases rws t <;> simp [hd1]
      rw [e, hl] at hk
      rw [e, S_hd _ _ _ (rws_ne t)]
      have := S_le_iff t n (k + 1) hn' hk
      simp only [h, if_false]
      omega
theorem S_in : ∀ (t : List Nat) (n : Nat) (h : n ≤ t.length), n ≤ S (rws t) (cn (t.take n)) + ((rws t)[cn (t.take n)]?.getD []).length
  | [], n, h => by simp at h; omega
  | c :: t, 0, h => by simp
  | c :: t, n + 1, h => by
    have hn' : n ≤ t.length := by simpa using h
    have ih := S_in t n hn'
    rw [List.take_succ_cons, cn]
    by_cases h : c = 10
    · have e : rws (c :: t) = [] :: rws t := by simp [rws, h]
      rw [e, if_pos h, Nat.add_comm 1]
      simp only [S, List.length_nil, List.getElem?_cons_succ]
      omega
    · have e : rws (c :: t) = hd1 c (rws t) := by simp [rws, h]
      rw [e, if_neg h, Nat.zero_add]
      cases hr : rws t with
      | nil => exact absurd hr (rws_ne t)
      | cons a l =>
        rw [hr] at ih
        cases hc : cn (t.take n) with
        | zero => rw [hc] at ih; simp [hd1, S] at ih ⊢; omega
        | succ j => rw [hc] at ih; simp [hd1, S] at ih ⊢; omega
/-- the starts, as the program finds them -/
def sts (i : Nat) : List Nat → List Nat
  | [] => []
  | c :: t => if c = 10 then (i + 1) :: sts (i + 1) t else sts (i + 1) t
theorem sts_S : ∀ (t : List Nat) (i : Nat), sts i t = (List.range (cn t)).map fun k => i + S (rws t) (k + 1)
  | [], i => rfl
  | c :: t, i => by
    unfold sts
    rw [sts_S t, cn]
    by_cases h : c = 10
    · rw [if_pos h, if_pos h, Nat.add_comm 1, List.range_succ_eq_map, List.map_cons, List.map_map]
      have e : rws (c :: t) = [] :: rws t := by simp [rws, h]
      rw [e]
      congr 1
      · simp [S]
      refine List.map_congr_left fun k _ => ?_
      simp [S]; omega
    · rw [if_neg h, if_neg h, Nat.zero_add]
      have e : rws (c :: t) = hd1 c (rws t) := by simp [rws, h]
      rw [e]
      refine List.map_congr_left fun k _ => ?_
      rw [S_hd _ _ _ (rws_ne t)]; omega
def stl (t : List Nat) : List Nat := (List.range (rws t).length).map (S (rws t))
theorem stl_sts (t : List Nat) : stl t = 0 :: sts 0 t := by
  unfold stl
  rw [rws_len, List.range_succ_eq_map, List.map_cons, List.map_map, sts_S]
  simp [S, Function.comp_def]
theorem S_sum : ∀ (l : List (List Nat)) (k : Nat), ((l.take k).map fun a => ((a.length : Int) + 1)).sum = (S l k : Int)
  | _, 0 => by simp [S]
  | [], k + 1 => by simp [S]
  | a :: l, k + 1 => by
    rw [List.take_succ_cons, List.map_cons, List.sum_cons, S_sum l k]; simp [S]
end Law

set_option Elab.async false
set_option linter.all false
set_option maxRecDepth 100000
set_option maxHeartbeats 400000
namespace Law
open PySem L2 Mir
structure TX (t : List Nat) : Prop where
  len : t.length ≤ 99
  ok : ∀ c ∈ t, c < 1114112
theorem TX.lim {t : List Nat} (h : TX t) : lim t.length = true := lim_of (by have := h.len; omega)
theorem TX.okS {t : List Nat} (h : TX t) : okS t = true := okS_iff.mpr h.ok
@[simp] theorem k10 : okS [10] = true := by decide
@[simp] theorem k32 : okS [32] = true := by decide
@[simp] theorem k0 : okS [] = true := by decide
theorem in_bl {c : Nat} : inD false (.str [c]) (.lst [.str [32], .str [10]]) = some (.bl (isB c)) := by
  simp only [inD, scalD, List.all_cons, List.all_nil, memD, List.any_cons, List.any_nil, eqb, isB]
  by_cases h1 : c = 32
  · subst h1; rfl
  · by_cases h2 : c = 10
    · subst h2; rfl
    · have e1 : ¬ (32 = c) := fun h => h1 h.symm
      have e2 : ¬ (10 = c) := fun h => h2 h.symm
      simp [h1, h2, e1, e2]
theorem kind_at_ok {t : List Nat} {i : Nat} (h : i < t.length) (X : TX t) : rs (m_kind_at [.str t, .int i]) = .ok (.str (kd t[i])) := by
  show rs (runB 2 b_kind_at _) = _
  rw [rs_run]
  show rF (b_kind_at [some (.str t), some (.int i)]) = _
  unfold b_kind_at
  simp [len_s X.lim, ix_s X.lim h, h, kd, isW, isB, sW, sB, sG]
  split
  · simp
  · split <;> simp
theorem kind_ok {c : Nat} : rs (m__law_kind [.str [c]]) = .ok (.str (kd c)) := by
  show rs (runB 1 b__law_kind _) = _
  rw [rs_run]
  show rF (b__law_kind [some (.str [c])]) = _
  unfold b__law_kind
  simp [kd, isW, in_bl, sW, sB, sG]
  split
  · simp
  · split <;> simp
theorem check_ok {t : List Nat} {i : Nat} (h : i ≤ t.length) (X : TX t) : rs (m_check_at [.str t, .int i]) = .ok .non := by
  show rs (runB 2 b_check_at _) = _
  rw [rs_run]
  show rF (b_check_at [some (.str t), some (.int i)]) = _
  unfold b_check_at
  simp [len_s X.lim, h]
theorem rows_ok {t : List Nat} (X : TX t) : rs (m_rows_of [.str t]) = .ok (.tup ((rws t).map .str)) := by
  show rs (runB 1 b_rows_of _) = _
  rw [rs_run]
  show rF (b_rows_of [some (.str t)]) = _
  unfold b_rows_of
  have : splD (.str t) (.str [10]) = some (.lst ((rws t).map .str)) := by
    show (if (decide (10 < 256) && lim t.length) = true then _ else _) = _
    rw [if_pos (by rw [X.lim]; rfl), spl_rws, pre_nil]
  simp [this]
def iN (l : List Nat) : List D := l.map fun (k : Nat) => D.int (k : Int)
theorem leafy_iN (l : List Nat) : (iN l).all leafy = true := by simp [iN, leafy]
theorem eq_c {c d : Nat} (h : c < 1114112) (h2 : d < 1114112) : eqD (.str [c]) (.str [d]) = some (.bl (decide (c = d))) := by
  rw [eq_s (by simp [okS, h]) (by simp [okS, h2])]; simp
theorem starts_loop (T : D) : ∀ (t : List Nat) (i : Nat) (fs : List Nat) (x y : Option D), fs.length + t.length < 1000 → (∀ c ∈ t, c < 1114112) → ∃ x' y', forL (bTup 2 (bCons (bNm 2) (bCons (bNm 3) (bNil)))) (sIf (fB (m2 eqD (fVar 3) (fC (.str [10])))) (sApp 1 (m2 (addD .S) (fVar 2) (fC (.int 1)))) (sNx)) (enumL i (t.map fun c => .str [c])) [some T, some (.lst (iN fs)), x, y] = .nx [some T, some (.lst (iN (fs ++ sts i t))), x', y'] := by
  intro t
  induction t with
  | nil => intro i fs x y _ _; exact ⟨x, y, by simp [enumL, sts]⟩
  | cons c t ih =>
    intro i fs x y hl hok
    rw [List.length_cons] at hl
    by_cases h : c = 10
    · obtain ⟨x', y', e⟩ := ih (i + 1) (fs ++ [i + 1]) (some (.int i)) (some (.str [c])) (by simp; omega) (fun c h => hok c (by simp [h]))
      refine ⟨x', y', ?_⟩
      rw [List.map_cons, enumL, forL_cons (r1 := [some T, some (.lst (iN fs)), some (.int i), some (.str [c])]) (r2 := [some T, some (.lst (iN (fs ++ [i + 1]))), some (.int i), some (.str [c])]) (by simp) ?_]
      · have : sts i (c :: t) = (i + 1) :: sts (i + 1) t := by rw [sts, if_pos h]
        rw [this]
        have e' := e
        rw [List.append_assoc] at e'
        rw [← Int.natCast_succ]
        exact e'
      · subst h
        rw [sIf_ok (b := true) (r' := [some T, some (.lst (iN fs)), some (.int i), some (.str [10])]) (by simp [eq_s])]
        rw [if_pos rfl, sApp_k (ds := iN fs) rfl]
        rw [show m2 (addD .S) (fVar 2) (fC (.int 1)) [some T, some (.lst (iN fs)), some (.int i), some (.str [10])] = .ok (.int (i + 1 : Nat)) [some T, some (.lst (iN fs)), some (.int i), some (.str [10])] by simp]
        rw [kAp_ok (ds := iN fs) rfl (by simp [iN]; omega) (leafy_iN _) rfl]
        simp [iN]
    · obtain ⟨x', y', e⟩ := ih (i + 1) fs (some (.int i)) (some (.str [c])) (by omega) (fun c h => hok c (by simp [h]))
      refine ⟨x', y', ?_⟩
      rw [List.map_cons, enumL, forL_cons (r1 := [some T, some (.lst (iN fs)), some (.int i), some (.str [c])]) (r2 := [some T, some (.lst (iN fs)), some (.int i), some (.str [c])]) (by simp) ?_]
      · have : sts i (c :: t) = sts (i + 1) t := by rw [sts, if_neg h]
        rw [this, ← Int.natCast_succ]
        exact e
      · have hc : c < 1114112 := hok c (by simp)
        simp [eq_c hc, h]
theorem starts_ok {t : List Nat} (X : TX t) : rs (m_starts_of [.str t]) = .ok (.tup (iN (stl t))) := by
  show rs (runB 4 b_starts_of _) = _
  rw [rs_run]
  show rF (b_starts_of [some (.str t), none, none, none]) = _
  unfold b_starts_of
  obtain ⟨x, y, e⟩ := starts_loop (.str t) t 0 [0] none none (by have := X.len; simp; omega) X.ok
  have e' : forL (bTup 2 (bCons (bNm 2) (bCons (bNm 3) (bNil)))) (sIf (fB (m2 eqD (fVar 3) (fC (.str [10])))) (sApp 1 (m2 (addD .S) (fVar 2) (fC (.int 1)))) (sNx)) (enumL 0 (t.map fun c => .str [c])) [some (.str t), some (.lst [.int 0]), none, none] = .nx [some (.str t), some (.lst (iN (0 :: sts 0 t))), x, y] := e
  simp [leafy, e', ownC_ok (i := 1) (ds := iN (0 :: sts 0 t)) (r := [some (.str t), some (.lst (iN (0 :: sts 0 t))), x, y]) rfl (leafy_iN _), stl_sts]
theorem stl_len (t : List Nat) : (stl t).length = (rws t).length := by simp [stl]
theorem ix_stT {t : List Nat} {k : Nat} (h : k < (rws t).length) : ixD (.tup (iN (stl t))) (.int k) = some (.int (S (rws t) k)) := by
  rw [ix_t (by simpa [iN, stl] using h)]
  simp [iN, stl]
theorem ix_stL {t : List Nat} {k : Nat} (h : k < (rws t).length) : ixD (.lst (iN (stl t))) (.int k) = some (.int (S (rws t) k)) := by
  rw [ix_l (by simpa [iN, stl] using h)]
  simp [iN, stl]
def rk (t : List Nat) (k : Nat) : List Nat := (rws t)[k]?.getD []
theorem ix_rwT {t : List Nat} {k : Nat} (h : k < (rws t).length) : ixD (.tup ((rws t).map .str)) (.int k) = some (.str (rk t k)) := by
  rw [ix_t (by simpa using h)]
  simp [rk, h]
theorem ix_rwL {t : List Nat} {k : Nat} (h : k < (rws t).length) : ixD (.lst ((rws t).map .str)) (.int k) = some (.str (rk t k)) := by
  rw [ix_l (by simpa using h)]
  simp [rk, h]
theorem rw_sub : ∀ (t : List Nat), ∀ a ∈ rws t, a.length ≤ t.length ∧ ∀ c ∈ a, c ∈ t
  | [], a, h => by have : a = [] := by simpa [rws] using h
                   subst this; simp
  | c :: t, a, h => by
    have ih := rw_sub t
    by_cases hc : c = 10
    · have e : rws (c :: t) = [] :: rws t := by simp [rws, hc]
      rw [e] at h
      rcases List.mem_cons.mp h with rfl | h
      · simp
      · have := ih a h
        exact ⟨by simp; omega, fun x hx => by simp [this.2 x hx]⟩
    · have e : rws (c :: t) = hd1 c (rws t) := by simp [rws, hc]
      rw [e] at h
      cases hr : rws t with
      | nil => exact absurd hr (rws_ne t)
      | cons b l =>
        rw [hr] at h ih
        rcases List.mem_cons.mp h with rfl | h
        · have := ih b (by simp)
          refine ⟨by simp; omega, fun x hx => ?_⟩
          rcases List.mem_cons.mp hx with rfl | hx
          · simp
          · simp [this.2 x hx]
        · have := ih a (by simp [h])
          exact ⟨by simp; omega, fun x hx => by simp [this.2 x hx]⟩
theorem rk_mem {t : List Nat} {k : Nat} (h : k < (rws t).length) : rk t k ∈ rws t := by
  unfold rk; simp [h]
theorem rk_TX {t : List Nat} {k : Nat} (X : TX t) (h : k < (rws t).length) : TX (rk t k) := by
  obtain ⟨a, b⟩ := rw_sub t _ (rk_mem h)
  exact ⟨Nat.le_trans a X.len, fun c hc => X.ok c (b c hc)⟩
/-- the row of a place -/
def ro (t : List Nat) (n : Nat) : Nat := cn (t.take n)
theorem ro_lt (t : List Nat) (n : Nat) : ro t n < (rws t).length := by
  rw [rws_len]; have := cn_take_le t n; unfold ro; omega
@[simp] theorem cnt_s {s : List Nat} : cntD (.str s) (.str [10]) = some (.int (cn s : Nat)) := by
  show some (D.int (cntL 10 s)) = _; rw [cntL_cn]
theorem rc_ok {t : List Nat} {i : Nat} (h : i ≤ t.length) (X : TX t) : rs (m_row_and_column [.str t, .int i]) = .ok (.tup [.int (ro t i : Nat), .int ((i : Int) - (S (rws t) (ro t i) : Nat))]) := by
  show rs (runB 3 b_row_and_column _) = _
  rw [rs_run]
  show rF (b_row_and_column [some (.str t), some (.int i), none]) = _
  unfold b_row_and_column
  have := ix_stT (ro_lt t i)
  unfold ro at this ⊢
  simp [check_ok h X, sl_s X.lim, cutL_to h, starts_ok X, this]
theorem at_ok {t : List Nat} {k : Nat} {c : Int} (h : k < (rws t).length) (hc : 0 ≤ c) (X : TX t) : rs (m_at_of [.str t, .int k, .int c]) = .ok (.int ((S (rws t) k : Nat) + min c (rk t k).length)) := by
  show rs (runB 4 b_at_of _) = _
  rw [rs_run]
  show rF (b_at_of [some (.str t), some (.int k), some (.int c), none]) = _
  unfold b_at_of
  have hc' : ¬ c < 0 := by omega
  simp [rows_ok X, h, hc', starts_ok X, ix_stT h, ix_rwT h, len_s (rk_TX X h).lim]
theorem at_ex {t : List Nat} {k : Nat} {c : Int} (h : ¬ k < (rws t).length) (X : TX t) : rs (m_at_of [.str t, .int k, .int c]) = .ex 0 := by
  show rs (runB 4 b_at_of _) = _
  rw [rs_run]
  show rF (b_at_of [some (.str t), some (.int k), some (.int c), none]) = _
  unfold b_at_of
  simp [rows_ok X, h]
theorem ud_ok {t : List Nat} {i : Nat} {d c : Int} (h : i ≤ t.length) (hc : 0 ≤ c) (X : TX t) : rs (m_up_or_down [.str t, .int i, .int d, .int c]) = rs (m_at_of [.str t, .int (min ((rws t).length - 1) (max 0 ((ro t i : Nat) + d))), .int c]) := by
  show rs (runB 7 b_up_or_down _) = _
  rw [rs_run]
  show rF (b_up_or_down [some (.str t), some (.int i), some (.int d), some (.int c), none, none, none]) = _
  unfold b_up_or_down
  simp [rows_ok X, rc_ok h X]
  cases rs (m_at_of [.str t, .int (min ((rws t).length - 1) (max 0 ((ro t i : Nat) + d))), .int c]) <;> rfl
end Law

set_option Elab.async false
set_option linter.all false
set_option maxRecDepth 100000
set_option maxHeartbeats 400000
namespace Law
open PySem L2 Mir
theorem while_dn' {c : M Bool} {b : Rho → Fl} {i : Nat} {p : Nat → Bool} {r r0 : Rho} {n s : Nat} (hf : s < 1000000) (hn : s ≤ n) (hc : ∀ s : Nat, s ≤ n → c (r.set i (some (.int s))) = .ok (decide (0 < s) && p (s - 1)) (r.set i (some (.int s)))) (hb : ∀ s : Nat, s < n → b (r.set i (some (.int (s + 1 : Nat)))) = .nx (r.set i (some (.int s)))) (h0 : r0 = r.set i (some (.int s))) :
    whileL c b 1000000 r0 = .nx (r.set i (some (.int (dn p s)))) := h0 ▸ while_dn hc hb 1000000 s hf hn
theorem while_up' {c : M Bool} {b : Rho → Fl} {i : Nat} {p : Nat → Bool} {r r0 : Rho} {n s : Nat} (hf : n - s < 1000000) (hn : s ≤ n) (hc : ∀ s : Nat, s ≤ n → c (r.set i (some (.int s))) = .ok (decide (s < n) && p s) (r.set i (some (.int s)))) (hb : ∀ s : Nat, s < n → b (r.set i (some (.int s))) = .nx (r.set i (some (.int (s + 1 : Nat))))) (h0 : r0 = r.set i (some (.int s))) :
    whileL c b 1000000 r0 = .nx (r.set i (some (.int (up p (n - s) s)))) := h0 ▸ while_up hc hb (n - s) 1000000 s hf (by omega)
def at' (t : List Nat) (s : Nat) : Nat := t[s]?.getD 0
theorem at_get {t : List Nat} {s : Nat} (h : s < t.length) : t[s] = at' t s := by simp [at', h]
def dW (t : List Nat) (i : Nat) : Nat := dn (fun s => isW (at' t s)) i
def uW (t : List Nat) (i : Nat) : Nat := up (fun s => isW (at' t s)) (t.length - i) i
theorem word_ok {t : List Nat} {i : Nat} (h : i ≤ t.length) (X : TX t) : rs (m_word_at [.str t, .int i]) = .ok (.tup [.int (dW t i), .int (uW t i)]) := by
  show rs (runB 4 b_word_at _) = _
  rw [rs_run]
  show rF (b_word_at [some (.str t), some (.int i), none, none]) = _
  unfold b_word_at
  have hx := X.len
  simp [check_ok h X]
  rw [while_dn' (i := 2) (r := [some (.str t), some (.int i), some (.int i), some (.int i)]) (p := fun s => isW (at' t s)) (n := t.length) (s := i) (by omega) h ?_ ?_ ?_]
  · simp
    rw [while_up' (i := 3) (r := [some (.str t), some (.int i), some (.int (dW t i)), some (.int i)]) (p := fun s => isW (at' t s)) (n := t.length) (s := i) (by omega) h ?_ ?_ ?_]
    · simp [uW]
    · intro s hs
      simp [len_s X.lim]
      by_cases h1 : s < t.length
      · simp [h1, ix_s X.lim h1, at_get h1, isW]
      · simp [h1]
    · intro s hs
      simp
    · rfl
  · intro s hs
    cases s with
    | zero => simp
    | succ s =>
      have h1 : s < t.length := by omega
      simp [ix_s X.lim h1, at_get h1, isW]
  · intro s hs
    simp
  · rfl
/-- the kind's text -/
theorem okS_kd {c : Nat} : okS (kd c) = true := by
  unfold kd; split
  · decide
  · split <;> decide
def gap (t : List Nat) (s : Nat) : Bool := decide (kd (at' t s) = sB)
def nx1 (t : List Nat) (i : Nat) : Nat := if i < t.length ∧ gap t i = false then up (fun s => decide (kd (at' t s) = kd (at' t i))) (t.length - i) i else i
def nx2 (t : List Nat) (i : Nat) : Nat := up (gap t) (t.length - nx1 t i) (nx1 t i)
theorem up_le (p : Nat → Bool) : ∀ (k s : Nat), s ≤ up p k s ∧ up p k s ≤ s + k
  | 0, s => ⟨Nat.le_refl _, Nat.le_refl _⟩
  | k + 1, s => by
    unfold up
    split
    · have := up_le p k (s + 1); omega
    · omega
theorem dn_le (p : Nat → Bool) : ∀ (s : Nat), dn p s ≤ s
  | 0 => Nat.le_refl _
  | s + 1 => by
    unfold dn
    split
    · have := dn_le p s; omega
    · omega
theorem nx1_le {t : List Nat} {i : Nat} (h : i ≤ t.length) : nx1 t i ≤ t.length := by
  unfold nx1
  split
  · have := up_le (fun s => decide (kd (at' t s) = kd (at' t i))) (t.length - i) i; omega
  · exact h
@[simp] theorem okB : okS [115, 112, 97, 99, 101] = true := by decide
theorem next_ok {t : List Nat} {i : Nat} (h : i ≤ t.length) (X : TX t) : rs (m_next_word [.str t, .int i]) = .ok (.int (nx2 t i)) := by
  show rs (runB 4 b_next_word _) = _
  rw [rs_run]
  show rF (b_next_word [some (.str t), some (.int i), none, none]) = _
  unfold b_next_word
  have hx := X.len
  have fin : ∀ (y : Option D) (body : Rho → Fl), rF (sS (whileL (fAnd (fB (m2 ltD (fVar 2) (fn1 lenN (fVar 0)))) (fB (m2 eqD (fCall [none, none] m_kind_at (fCons (fVar 0) (fCons (fVar 2) (fNil)))) (fC (.str [115, 112, 97, 99, 101]))))) (sAug 2 augD (fC (.int 1))) 1000000) (sRet (fVar 2)) [some (.str t), some (.int i), some (.int (nx1 t i)), y]) = .ok (.int (nx2 t i)) := by
    intro y _
    simp
    rw [while_up' (i := 2) (r := [some (.str t), some (.int i), some (.int i), y]) (p := gap t) (n := t.length) (s := nx1 t i) (by have := nx1_le h; omega) (nx1_le h) ?_ ?_ ?_]
    · simp [nx2]
    · intro s hs
      simp [len_s X.lim]
      by_cases h1 : s < t.length
      · simp [h1, kind_at_ok h1 X, at_get h1, eq_s okS_kd okB, gap, sB]
        rfl
      · simp [h1]
    · intro s hs
      simp
    · rfl
  by_cases h1 : i < t.length
  · simp only [sS_k, sDrop_k, sSet_k]
    simp [check_ok h X, len_s X.lim, h1, kind_at_ok h1 X, at_get h1, ne_s okS_kd okB]
    by_cases h2 : kd (at' t i) = [115, 112, 97, 99, 101]
    · have e : nx1 t i = i := by unfold nx1; rw [if_neg]; simp [gap, h2, sB]
      have := fin none sNx
      rw [e] at this
      simp [h2]
      simpa using this
    · have e : nx1 t i = up (fun s => decide (kd (at' t s) = kd (at' t i))) (t.length - i) i := by unfold nx1; rw [if_pos]; simp [gap, h1, h2, sB]
      simp [h2, kind_at_ok h1 X, at_get h1]
      rw [while_up' (i := 2) (r := [some (.str t), some (.int i), some (.int i), some (.str (kd (at' t i)))]) (p := fun s => decide (kd (at' t s) = kd (at' t i))) (n := t.length) (s := i) (by omega) h ?_ ?_ ?_]
      · have := fin (some (.str (kd (at' t i)))) sNx
        rw [e] at this
        simpa using this
      · intro s hs
        simp [len_s X.lim]
        by_cases h1 : s < t.length
        · simp [h1, kind_at_ok h1 X, at_get h1, eq_s okS_kd okS_kd]
        · simp [h1]
      · intro s hs
        simp
      · rfl
  · have e : nx1 t i = i := by unfold nx1; rw [if_neg]; simp [h1]
    have := fin none sNx
    rw [e] at this
    simp [check_ok h X, len_s X.lim, h1]
    simpa using this
def lw1 (t : List Nat) (i : Nat) : Nat := dn (gap t) i
def lw2 (t : List Nat) (i : Nat) : Nat := if 0 < lw1 t i then dn (fun s => decide (kd (at' t s) = kd (at' t (lw1 t i - 1)))) (lw1 t i) else 0
theorem lw1_le (t : List Nat) (i : Nat) : lw1 t i ≤ i := dn_le _ _
theorem last_ok {t : List Nat} {i : Nat} (h : i ≤ t.length) (X : TX t) : rs (m_last_word [.str t, .int i]) = .ok (.int (lw2 t i)) := by
  show rs (runB 4 b_last_word _) = _
  rw [rs_run]
  show rF (b_last_word [some (.str t), some (.int i), none, none]) = _
  unfold b_last_word
  have hx := X.len
  have hl := lw1_le t i
  simp [check_ok h X]
  rw [while_dn' (i := 2) (r := [some (.str t), some (.int i), some (.int i), none]) (p := gap t) (n := t.length) (s := i) (by omega) h ?_ ?_ ?_]
  · by_cases h0 : 0 < lw1 t i
    · have h1 : lw1 t i - 1 < t.length := by omega
      have hm : ((lw1 t i : Nat) : Int) - 1 = ((lw1 t i - 1 : Nat) : Int) := by omega
      have h0' : (0 : Int) < (lw1 t i : Nat) := by omega
      simp only [show dn (gap t) i = lw1 t i from rfl]
      simp [h0, hm, kind_at_ok h1 X, at_get h1]
      rw [while_dn' (i := 2) (r := [some (.str t), some (.int i), some (.int i), some (.str (kd (at' t (lw1 t i - 1))))]) (p := fun s => decide (kd (at' t s) = kd (at' t (lw1 t i - 1)))) (n := t.length) (s := lw1 t i) (by omega) (by omega) ?_ ?_ ?_]
      · simp [lw2, h0]
      · intro s hs
        cases s with
        | zero => simp
        | succ s =>
          have h1 : s < t.length := by omega
          simp [kind_at_ok h1 X, at_get h1, eq_s okS_kd okS_kd]
      · intro s hs
        simp
      · rfl
    · simp only [show dn (gap t) i = lw1 t i from rfl]
      have h0' : lw1 t i = 0 := by omega
      simp [h0', lw2]
  · intro s hs
    cases s with
    | zero => simp
    | succ s =>
      have h1 : s < t.length := by omega
      simp [kind_at_ok h1 X, at_get h1, eq_s okS_kd okB, gap, sB]
      rfl
  · intro s hs
    simp
  · rfl
def bare (a : List Nat) : Bool := a.all fun c => decide (c = 32)
theorem dw_nil {g : Nat → Bool} : ∀ {a : List Nat}, a.dropWhile g = [] ↔ ∀ c ∈ a, g c = true
  | [] => by simp
  | c :: a => by
    by_cases h : g c = true
    · simp [h, dw_nil (a := a)]
    · simp [h]
theorem strip_bare (a : List Nat) : stripL true true (fun c => [32].contains c) a = [] ↔ bare a = true := by
  unfold stripL bare
  simp only [if_true, List.reverse_eq_nil_iff, dw_nil, List.mem_reverse, List.all_eq_true, decide_eq_true_eq]
  constructor
  · intro h c hc
    by_cases hd : a.dropWhile (fun c => [32].contains c) = []
    · have := dw_nil.mp hd c hc; simpa using this
    · exfalso
      cases e : a.dropWhile (fun c => [32].contains c) with
      | nil => exact hd e
      | cons b l =>
        have h1 := h b (by rw [e]; simp)
        have h2 : ([32].contains b) = false := by
          clear h hd hc
          induction a with
          | nil => simp at e
          | cons x a ih =>
            by_cases hx : ([32].contains x) = true
            · rw [List.dropWhile_cons_of_pos (by simpa using hx)] at e; exact ih e
            · rw [List.dropWhile_cons_of_neg (by simpa using hx)] at e
              cases e; simpa using hx
        rw [h2] at h1; cases h1
  · intro h c hc
    have : c ∈ a := (List.dropWhile_sublist _).subset hc
    simp [h c this]
def stp (a : List Nat) : List Nat := stripL true true (fun c => [32].contains c) a
theorem strip_s {a : List Nat} (X : TX a) : strpD true true (.str a) (.str [32]) = some (.str (stp a)) := by
  show (if lim a.length = true then _ else _) = _
  rw [if_pos X.lim]; rfl
theorem strip_ok {a : List Nat} (X : TX a) : okS (stp a) = true := by
  refine okS_iff.mpr fun c hc => X.ok c ?_
  unfold stp stripL at hc
  simp only [if_true, List.mem_reverse] at hc
  have := (List.dropWhile_sublist _).subset hc
  exact (List.dropWhile_sublist _).subset (by simpa using this)
theorem eq_bare {a : List Nat} (X : TX a) : eqD (.str (stp a)) (.str []) = some (.bl (bare a)) := by
  rw [eq_s (strip_ok X) k0]
  congr 2
  rw [Bool.eq_iff_iff, decide_eq_true_eq, show stp a = [] ↔ _ from strip_bare a]
theorem ne_bare {a : List Nat} (X : TX a) : neD (.str (stp a)) (.str []) = some (.bl (!bare a)) := by
  rw [ne_s (strip_ok X) k0]
  congr 3
  rw [Bool.eq_iff_iff, decide_eq_true_eq, show stp a = [] ↔ _ from strip_bare a]
def plo (t : List Nat) (i : Nat) : Nat := if bare (rk t (ro t i)) then ro t i else dn (fun s => !bare (rk t s)) (ro t i)
def phi (t : List Nat) (i : Nat) : Nat := if bare (rk t (ro t i)) then ro t i else up (fun s => !bare (rk t (s + 1))) (cn t - ro t i) (ro t i)
theorem ro_le (t : List Nat) (n : Nat) : ro t n ≤ cn t := cn_take_le t n
theorem par_ok {t : List Nat} {i : Nat} (h : i ≤ t.length) (X : TX t) : rs (m_paragraph [.str t, .int i]) = .ok (.tup [.int (plo t i), .int (phi t i)]) := by
  show rs (runB 7 b_paragraph _) = _
  rw [rs_run]
  show rF (b_paragraph [some (.str t), some (.int i), none, none, none, none, none]) = _
  unfold b_paragraph
  have hx := X.len
  have hc := cn_le t
  have hr := ro_lt t i
  have hr' := ro_le t i
  have XR := rk_TX X hr
  simp [rc_ok h X, rows_ok X, ix_rwT hr, strip_s XR, eq_bare XR]
  by_cases hb : bare (rk t (ro t i)) = true
  · simp [hb, plo, phi]
  · simp [hb]
    rw [while_dn' (i := 5) (r := [some (.str t), some (.int i), some (.int (ro t i)), some (.int ((i : Int) - (S (rws t) (ro t i) : Nat))), some (.tup ((rws t).map .str)), some (.int (ro t i)), some (.int (ro t i))]) (p := fun s => !bare (rk t s)) (n := cn t) (s := ro t i) (by omega) hr' ?_ ?_ ?_]
    · simp
      rw [while_up' (i := 6) (r := [some (.str t), some (.int i), some (.int (ro t i)), some (.int ((i : Int) - (S (rws t) (ro t i) : Nat))), some (.tup ((rws t).map .str)), some (.int (plo t i)), some (.int (ro t i))]) (p := fun s => !bare (rk t (s + 1))) (n := cn t) (s := ro t i) (by omega) hr' ?_ ?_ ?_]
      · have ep : phi t i = up (fun s => !bare (rk t (s + 1))) (cn t - ro t i) (ro t i) := by unfold phi; rw [if_neg hb]
        rw [← ep]
        simp
      · intro s hs
        have e : ((rws t).length : Int) - 1 = (cn t : Nat) := by rw [rws_len]; omega
        simp [e]
        by_cases h1 : s < cn t
        · have h2 : s + 1 < (rws t).length := by rw [rws_len]; omega
          have i2 := ix_rwT h2
          rw [Int.natCast_succ] at i2
          simp [h1, i2, strip_s (rk_TX X h2), ne_bare (rk_TX X h2)]
        · simp [h1]
      · intro s hs
        simp
      · simp [plo, hb]
    · intro s hs
      cases s with
      | zero => simp
      | succ s =>
        have h1 : s < (rws t).length := by rw [rws_len]; omega
        simp [ix_rwT h1, strip_s (rk_TX X h1), ne_bare (rk_TX X h1)]
    · intro s hs
      simp
    · rfl
theorem strsD_of : ∀ ls : List (List Nat), strsD (ls.map .str) = some ls
  | [] => rfl
  | l :: ls => by simp [strsD, strsD_of ls]
def wc (b : Bool) : List Nat → Nat
  | [] => 0
  | c :: t => (if isW c && !b then 1 else 0) + wc (isW c) t
theorem count_loop (T : D) : ∀ (t : List Nat) (n : Nat) (b : Bool) (x y : Option D), ∃ b' x', forL (bNm 3) (sS (sAug 1 augD (fIf (fAnd (fB (m2 (inD false) (fVar 3) (fC (.str g_LETTERS)))) (fNot (fB (fVar 2)))) (fC (.int 1)) (fC (.int 0)))) (sSet 2 (m2 (inD false) (fVar 3) (fC (.str g_LETTERS))))) (t.map fun c => .str [c]) [some T, some (.int n), some (.bl b), x, y] = .nx [some T, some (.int (n + wc b t : Nat)), some (.bl b'), x', y]
  | [], n, b, x, y => ⟨b, x, rfl⟩
  | c :: t, n, b, x, y => by
    obtain ⟨b', x', e⟩ := count_loop T t (n + (if isW c && !b then 1 else 0)) (isW c) (some (.str [c])) y
    refine ⟨b', x', ?_⟩
    rw [List.map_cons, forL_cons (r1 := [some T, some (.int n), some (.bl b), some (.str [c]), y]) (r2 := [some T, some (.int (n + (if isW c && !b then 1 else 0) : Nat)), some (.bl (isW c)), some (.str [c]), y]) (by simp) ?_, e]
    · simp [wc, Nat.add_assoc]
    · simp [isW]
      by_cases h : c ∈ g_LETTERS <;> cases b <;> simp [h]
def mx (t : List Nat) : Option D := maxD (.lst ((rws t).map fun l => .int l.length))
theorem mx_ex (t : List Nat) : ∃ m, mx t = some (.int m) := by
  unfold mx
  show ∃ m, (intsD _).bind _ = _
  rw [intsD_map' (fun (l : List Nat) => (l.length : Int))]
  cases e : rws t with
  | nil => exact absurd e (rws_ne t)
  | cons a l => exact ⟨_, rfl⟩
theorem mlen_ok {t : List Nat} (X : TX t) : mlenD (.tup ((rws t).map .str)) = mx t := by
  unfold mlenD
  simp only [strsD_of]
  rw [if_pos]
  · rfl
  · simp only [List.all_eq_true]
    intro l hl
    exact lim_of (by have := (rw_sub t l hl).1; have := X.len; omega)
theorem counted_ok {t : List Nat} {m : Int} (X : TX t) (hm : mx t = some (.int m)) : rs (m_counted [.str t]) = .ok (.tup [.int t.length, .int (wc false t), .int (rws t).length, .int m]) := by
  show rs (runB 5 b_counted _) = _
  rw [rs_run]
  show rF (b_counted [some (.str t), none, none, none, none]) = _
  unfold b_counted
  obtain ⟨b', x', e⟩ := count_loop (.str t) t 0 false none none
  rw [Nat.zero_add] at e
  have e' : forL (bNm 3) (sS (sAug 1 augD (fIf (fAnd (fB (m2 (inD false) (fVar 3) (fC (.str g_LETTERS)))) (fNot (fB (fVar 2)))) (fC (.int 1)) (fC (.int 0)))) (sSet 2 (m2 (inD false) (fVar 3) (fC (.str g_LETTERS))))) (t.map fun c => .str [c]) [some (.str t), some (.int 0), some (.bl false), none, none] = _ := e
  simp [e', len_s X.lim, rows_ok X, mlen_ok X, hm]
end Law

set_option Elab.async false
set_option linter.all false
set_option maxRecDepth 100000
set_option maxHeartbeats 400000
namespace Law
open PySem L2 Mir
abbrev dc (a b c : Int) : D := .lst [.int a, .int b, .int c]
theorem pow18 : powD (.int 10) (.int 18) = some (.int (10 ^ 18)) := rfl
theorem dice_ok (z : Int) : ∃ a b c, rs (m__law_dice [.int z]) = .ok (dc a b c) := by
  show ∃ a b c, rs (runB 1 b__law_dice _) = _
  simp only [rs_run]
  show ∃ a b c, rF (b__law_dice [some (.int z)]) = _
  unfold b__law_dice
  have h9 : (0 : Int) < 1009 := by decide
  by_cases h : (-10 < z ∧ z < 10)
  · simp [h]
  · have hh : ¬ (-10 < z → z < 10) ∨ True := .inr trivial
    by_cases h1 : -10 < z
    · have h2 : ¬ z < 10 := fun x => h ⟨h1, x⟩
      simp [h1, h2, mod_i h9, pow18]
    · simp [h1, mod_i h9, pow18]
theorem ix3 (a b c : Int) : ixD (dc a b c) (.int 0) = some (.int a) ∧ ixD (dc a b c) (.int 1) = some (.int b) ∧ ixD (dc a b c) (.int 2) = some (.int c) := ⟨rfl, rfl, rfl⟩
theorem own0 {a b c : Int} {r : Rho} : fOwnC 0 (some (dc a b c) :: r) = .ok (dc a b c) (some (dc a b c) :: r) := rfl
theorem put00 {a b c : Int} {r : Rho} {f : M D} {z : Int} (hf : f (some (dc a b c) :: r) = .ok (.int z) (some (dc a b c) :: r)) : sPut 0 (fC (.int 0)) f (some (dc a b c) :: r) = .nx (some (dc z b c) :: r) :=
  sPut_ok (i := 0) (n := 0) (ds := [.int a, .int b, .int c]) hf rfl rfl rfl (by simp) rfl rfl
theorem put01 {a b c : Int} {r : Rho} {f : M D} {z : Int} (hf : f (some (dc a b c) :: r) = .ok (.int z) (some (dc a b c) :: r)) : sPut 0 (fC (.int 1)) f (some (dc a b c) :: r) = .nx (some (dc a z c) :: r) :=
  sPut_ok (i := 0) (n := 1) (ds := [.int a, .int b, .int c]) hf rfl rfl rfl (by simp) rfl rfl
theorem put02 {a b c : Int} {r : Rho} {f : M D} {z : Int} (hf : f (some (dc a b c) :: r) = .ok (.int z) (some (dc a b c) :: r)) : sPut 0 (fC (.int 2)) f (some (dc a b c) :: r) = .nx (some (dc a b z) :: r) :=
  sPut_ok (i := 0) (n := 2) (ds := [.int a, .int b, .int c]) hf rfl rfl rfl (by simp) rfl rfl
theorem roll_run (a b c many : Int) (h : 0 < many) (h2 : many ≤ 100000000) (y : Option D) : ∃ v a' b' c', 0 ≤ v ∧ v < many ∧ b__law_roll [some (dc a b c), some (.int many), y] = .rt (.int v) [some (dc a' b' c'), some (.int many), some (.int v)] ∨ 0 ≤ v ∧ v < many ∧ b__law_roll [some (dc a b c), some (.int many), y] = .rt (.int v) [some (dc a' b' c'), some (.int many), y] := by
  unfold b__law_roll
  have h7 : (0 : Int) < 7 := by decide
  have h3 : many < 1073741824 := by omega
  have m1 := fun x => Int.emod_nonneg x (show many ≠ 0 by omega)
  have m2' := fun x => Int.emod_lt_of_pos x h
  by_cases hc : c = 2 ∨ c = 1 ∧ 0 < a
  · have e : ∀ r, fOr (fB (m2 eqD (m2 ixD (fOwnC 0) (fC (.int 2))) (fC (.int 2)))) (fAnd (fB (m2 eqD (m2 ixD (fOwnC 0) (fC (.int 2))) (fC (.int 1)))) (fB (m2 gtD (m2 ixD (fOwnC 0) (fC (.int 0))) (fC (.int 0))))) (some (dc a b c) :: r) = .ok true (some (dc a b c) :: r) := by
      intro r
      simp [own0, (ix3 a b c).1, (ix3 a b c).2.2]
      rcases hc with h | ⟨h, h'⟩
      · simp [h]
      · simp [h, h']
    refine ⟨a % many, a / many, b, c, .inl ⟨m1 _, m2' _, ?_⟩⟩
    rw [sS_k, sIf_ok (e _), if_pos rfl]
    simp [own0, (ix3 a b c).1, mod_i h]
    rw [put00 (z := a / many) (by simp [own0, (ix3 a b c).1, fdv_i h h3])]
    simp
  · have e : ∀ r, fOr (fB (m2 eqD (m2 ixD (fOwnC 0) (fC (.int 2))) (fC (.int 2)))) (fAnd (fB (m2 eqD (m2 ixD (fOwnC 0) (fC (.int 2))) (fC (.int 1)))) (fB (m2 gtD (m2 ixD (fOwnC 0) (fC (.int 0))) (fC (.int 0))))) (some (dc a b c) :: r) = .ok false (some (dc a b c) :: r) := by
      intro r
      simp [own0, (ix3 a b c).1, (ix3 a b c).2.2]
      constructor
      · intro h; exact hc (.inl h)
      · intro h; have := fun h' => hc (.inr ⟨h, h'⟩); omega
    have hm : ¬ (100000000 < many) := by omega
    have m64 : ∀ (x y : Int), sm64 y = true → mulD (.int x) (.int y) = some (.int (x * y)) := by
      intro x y hy
      show (if (sm64 x || sm64 y) = true then _ else _) = _
      rw [hy, Bool.or_true, if_pos rfl]
    have hp : (0 : Int) < 2147483647 := by decide
    refine ⟨((a * 48271 + b * 69621 + 11) % 2147483647 / 7) % many, (a * 48271 + b * 69621 + 11) % 2147483647, b + 1, 0, .inr ⟨m1 _, m2' _, ?_⟩⟩
    rw [sS_k, sIf_ok (e _), if_neg (by decide)]
    simp only [sNx_k, kS_nx, sS_k]
    rw [put02 (z := 0) (by simp)]
    simp only [kS_nx, sS_k]
    simp [hm]
    rw [put00 (z := (a * 48271 + b * 69621 + 11) % 2147483647) (by simp [own0, (ix3 a b 0).1, (ix3 a b 0).2.1, m64 _ 48271 rfl, m64 _ 69621 rfl, mod_i hp])]
    simp only [kS_nx, sS_k]
    rw [put01 (z := b + 1) (by simp [own0, (ix3 ((a * 48271 + b * 69621 + 11) % 2147483647) b 0).2.1])]
    simp [own0, (ix3 ((a * 48271 + b * 69621 + 11) % 2147483647) (b + 1) 0).1, fdv_i h7, mod_i h]
theorem roll_call {i : Nat} {g : M (List D)} {a b c many : Int} {r : Rho} (h : 0 < many) (h2 : many ≤ 100000000) (hr : r[i]? = some (some (dc a b c))) (hg : g r = .ok [.int many] r) : ∃ v a' b' c', 0 ≤ v ∧ v < many ∧ fCall [some i, none] m__law_roll (fRef i g) r = .ok (.int v) (r.set i (some (dc a' b' c'))) := by
  have e1 : fRef i g r = .ok [.non, .int many] r := by
    unfold fRef
    rw [hr]
    show bnd g _ r = _
    rw [bnd_ok hg]
  have e2 : fillD [some i, none] [.non, .int many] r = some [dc a b c, .int many] := by
    simp [fillD, hr]
  have fin : ∀ v a' b' c' y, b__law_roll [some (dc a b c), some (.int many), none] = .rt (.int v) [some (dc a' b' c'), some (.int many), y] → fCall [some i, none] m__law_roll (fRef i g) r = .ok (.int v) (r.set i (some (dc a' b' c'))) := by
    intro v a' b' c' y e
    unfold fCall
    rw [bnd_ok e1]
    simp only [e2]
    have e3 : m__law_roll [dc a b c, .int many] = .ok (.int v) [some (dc a' b' c'), some (.int many), y] := by
      show (match b__law_roll [some (dc a b c), some (.int many), none] with | .nx r => Out.ok D.non r | .rt d r => .ok d r | .ex c r => .ex c r | _ => .stk) = _
      rw [e]
    rw [e3]
    rfl
  obtain ⟨v, a', b', c', ⟨h1, h2, e⟩ | ⟨h1, h2, e⟩⟩ := roll_run a b c many h h2 none
  · exact ⟨v, a', b', c', h1, h2, fin _ _ _ _ _ e⟩
  · exact ⟨v, a', b', c', h1, h2, fin _ _ _ _ _ e⟩
theorem lcL_yes {vs : List Nat} {b : D → Rho → Option Rho} {t : M Bool} {e : M D} {d y : D} {ds : List D} {r r1 r2 r3 : Rho} (hb : b d r = some r1) (ht : t r1 = .ok true r2) (he : e r2 = .ok y r3) : lcL vs b t e (d :: ds) r = (lcL vs b t e ds (wipeR r3 vs)).map fun p => (y :: p.1, p.2) := by
  rw [lcL]
  simp only [hb, ht, he]
def nine : List Nat := [97, 66, 55, 95, 32, 32, 44, 40, 10]
theorem text_loop (e : M D) (he : e = m2 ixD (fLst .S (fCons (fC (.str [97])) (fCons (fC (.str [66])) (fCons (fC (.str [55])) (fCons (fC (.str [95])) (fCons (fC (.str [32])) (fCons (fC (.str [32])) (fCons (fC (.str [44])) (fCons (fC (.str [40])) (fCons (fC (.str [10])) (fNil))))))))))) (fCall [some 0, none] m__law_roll (fRef 0 (fCons (fC (.int 9)) (fNil))))) (y : D) : ∀ (ds : List D) (a b c : Int), ∃ (l : List Nat) (a' b' c' : Int), lcL [2] (bNm 2) fYes e ds [some (dc a b c), some y, none] = some ((l.map fun c => D.str [c]), [some (dc a' b' c'), some y, none]) ∧ l.length = ds.length ∧ ∀ c ∈ l, c < 1114112
  | [], a, b, c => ⟨[], a, b, c, rfl, rfl, by simp⟩
  | d :: ds, a, b, c => by
    obtain ⟨v, a1, b1, c1, h1, h2, ev⟩ := roll_call (i := 0) (g := fCons (fC (.int 9)) fNil) (a := a) (b := b) (c := c) (r := [some (dc a b c), some y, some d]) (many := 9) (by decide) (by decide) rfl (by simp)
    obtain ⟨l, a', b', c', e2, e3, e4⟩ := text_loop e he y ds a1 b1 c1
    obtain ⟨n, rfl⟩ : ∃ n : Nat, v = n := ⟨v.toNat, by omega⟩
    have hn : n < 9 := by omega
    have hz : ∃ z, z < 1114112 ∧ ixD (.lst [.str [97], .str [66], .str [55], .str [95], .str [32], .str [32], .str [44], .str [40], .str [10]]) (.int n) = some (.str [z]) := by
      rw [ix_l (by simpa using hn)]
      match n, hn with
      | 0, _ => exact ⟨97, by decide, rfl⟩
      | 1, _ => exact ⟨66, by decide, rfl⟩
      | 2, _ => exact ⟨55, by decide, rfl⟩
      | 3, _ => exact ⟨95, by decide, rfl⟩
      | 4, _ => exact ⟨32, by decide, rfl⟩
      | 5, _ => exact ⟨32, by decide, rfl⟩
      | 6, _ => exact ⟨44, by decide, rfl⟩
      | 7, _ => exact ⟨40, by decide, rfl⟩
      | 8, _ => exact ⟨10, by decide, rfl⟩
    obtain ⟨z, hz1, hz2⟩ := hz
    have ee : e [some (dc a b c), some y, some d] = .ok (.str [z]) [some (dc a1 b1 c1), some y, some d] := by
      rw [he]
      refine m2_ok (r1 := [some (dc a b c), some y, some d]) (x := .lst [.str [97], .str [66], .str [55], .str [95], .str [32], .str [32], .str [44], .str [40], .str [10]]) ?_ ev hz2
      rfl
    refine ⟨z :: l, a', b', c', ?_, by simp [e3], ?_⟩
    · refine (lcL_yes (b := bNm 2) (t := fYes) (r := [some (dc a b c), some y, none]) (r1 := [some (dc a b c), some y, some d]) (r2 := [some (dc a b c), some y, some d]) rfl rfl ee).trans ?_
      show (lcL [2] (bNm 2) fYes e ds [some (dc a1 b1 c1), some y, none]).map _ = _
      rw [e2]
      rfl
    · intro c hc
      rcases List.mem_cons.mp hc with rfl | hc
      · exact hz1
      · exact e4 c hc
theorem strsD_1 : ∀ l : List Nat, strsD (l.map fun c => D.str [c]) = some (l.map fun c => [c])
  | [] => rfl
  | a :: l => by simp [strsD, strsD_1 l]
theorem sumN_1 : ∀ l : List Nat, sumN ((l.map fun c => [c]).map List.length) = l.length
  | [] => rfl
  | a :: l => by simp only [List.map_cons, sumN, sumN_1 l, List.length_cons, List.length_nil]; omega
theorem joinL_1 : ∀ l : List Nat, TL.joinL [] (l.map fun c => [c]) = l
  | [] => rfl
  | [a] => rfl
  | a :: b :: l => by
    show [a] ++ ([] ++ TL.joinL [] ((b :: l).map fun c => [c])) = _
    rw [joinL_1 (b :: l)]; rfl
theorem text_ok (a b c : Int) : ∃ (t : List Nat) (a' b' c' : Int) (r2 : Rho), m__law_text [dc a b c, .int 30] = .ok (.str t) r2 ∧ r2[0]? = some (some (dc a' b' c')) ∧ TX t ∧ t.length < 30 := by
  obtain ⟨v, a1, b1, c1, h1, h2, ev⟩ := roll_call (i := 0) (g := fCons (fVar 1) fNil) (a := a) (b := b) (c := c) (r := [some (dc a b c), some (.int 30), none]) (many := 30) (by decide) (by decide) rfl (by simp)
  obtain ⟨n, rfl⟩ : ∃ n : Nat, v = n := ⟨v.toNat, by omega⟩
  obtain ⟨l, a', b', c', e2, e3, e4⟩ := text_loop _ rfl (.int 30) ((List.range n).map fun (j : Nat) => D.int (j : Int)) a1 b1 c1
  have e3' : l.length = n := by simpa using e3
  have hi : fItA rg1D (fCons (fCall [some 0, none] m__law_roll (fRef 0 (fCons (fVar 1) (fNil)))) (fNil)) [some (dc a b c), some (.int 30), none] = .ok ((List.range n).map fun (j : Nat) => D.int (j : Int)) [some (dc a1 b1 c1), some (.int 30), none] := by
    refine fItA_ok (fCons_ok ev fNil_ok) (rg1 (by omega))
  refine ⟨l, a', b', c', [some (dc a' b' c'), some (.int 30), none], ?_, rfl, ⟨by omega, e4⟩, by omega⟩
  show runB 3 b__law_text [dc a b c, .int 30] = _
  have hb : b__law_text [some (dc a b c), some (.int 30), none] = .rt (.str l) [some (dc a' b' c'), some (.int 30), none] := by
    unfold b__law_text
    refine sRet_ok (fM1_ok (r1 := [some (dc a b c), some (.int 30), none]) rfl (r2 := [some (dc a' b' c'), some (.int 30), none]) (y := .lst (l.map fun c => D.str [c])) ?_ ?_)
    · unfold fLc
      rw [bnd_ok hi]
      have e2' := e2
      show (match lcL [2] (bNm 2) fYes _ ((List.range n).map fun (j : Nat) => D.int (j : Int)) [some (dc a1 b1 c1), some (.int 30), none] with | none => Out.stk | some (l, r2) => if lim l.length && fitK .S l then Out.ok (D.lst l) (unw [some (dc a1 b1 c1), some (.int 30), none] [2] r2) else .stk) = _
      rw [e2']
      have hl : (lim (l.map fun c => D.str [c]).length && fitK .S (l.map fun c => D.str [c])) = true := by
        rw [lim_of (by simp; omega)]; rfl
      simp only [hl, if_true]
      rfl
    · show (strsD _).bind _ = _
      rw [strsD_1]
      show (if lim (sumN ((l.map fun c => [c]).map List.length) + (l.map fun c => [c]).length * 0) = true then some (D.str (TL.joinL [] (l.map fun c => [c]))) else none) = _
      rw [sumN_1, if_pos (lim_of (by omega)), joinL_1]
  show (match b__law_text [some (dc a b c), some (.int 30), none] with | .nx r => Out.ok D.non r | .rt d r => .ok d r | .ex c r => .ex c r | _ => .stk) = _
  rw [hb]
theorem bare_ok {a : List Nat} (X : TX a) : rs (m__law_bare [.str a]) = .ok (.bl (bare a)) := by
  show rs (runB 2 b__law_bare _) = _
  rw [rs_run]
  show rF (b__law_bare [some (.str a), none]) = _
  unfold b__law_bare
  have hx := X.len
  have e := fLc_of (k := .S) (v := 1) (f := fIt strO (fVar 0)) (t := fB (m2 neD (fVar 1) (fC (.str [32])))) (e := fVar 1) (r := [some (.str a), none]) (g := fun c => D.str [c]) (l := a) (pt := fun c => !decide (c = 32)) (pe := fun c => D.str [c]) (by simp) (fun c hc => by
      have h1 : neD (.str [c]) (.str [32]) = some (.bl (!decide (c = 32))) := by
        rw [ne_s (by simp [okS, X.ok c hc]) k32]; simp
      simp [h1]) (fun c _ _ => by simp) (by omega) (fun _ _ _ h => by cases h)
  simp only [sRet_k, m2_k, e]
  have : (List.filter (fun c => !decide (c = 32)) a).isEmpty = bare a := by
    clear e hx X
    induction a with
    | nil => rfl
    | cons c a ih =>
      by_cases h : c = 32
      · simp [h, bare] at ih ⊢; exact ih
      · simp [h, bare]
  rw [← this]
  simp [eq_nil (ds := (List.filter (fun c => !decide (c = 32)) a).map fun c => D.str [c]) (by
    intro d hd
    obtain ⟨c, hc, rfl⟩ := List.mem_map.mp hd
    simp [okS, X.ok c ((List.mem_filter.mp hc).1)])]
theorem rows_loop (T : D) : ∀ (t : List Nat) (f : List (List Nat)) (y : Option D), (∀ c ∈ t, c < 1114112) → f ≠ [] → f.length + t.length < 1000 → (∀ a ∈ f, a.length + t.length < 1000) → ∃ y', forL (bNm 2) (sSet 1 (fIf (fB (m2 eqD (fVar 2) (fC (.str [10])))) (m2 (addD .S) (fVar 1) (fLst .S (fCons (fC (.str [])) (fNil)))) (m2 (addD .S) (fSl .S (fVar 1) (fNo) (fPart (fn1 negD (fC (.int 1))))) (fLst .S (fCons (m2 (addD .S) (m2 ixD (fVar 1) (fn1 negD (fC (.int 1)))) (fVar 2)) (fNil)))))) (t.map fun c => D.str [c]) [some T, some (.lst (f.map .str)), y] = .nx [some T, some (.lst ((t.foldl ext f).map .str)), y']
  | [], f, y, _, _, _, _ => ⟨y, rfl⟩
  | c :: t, f, y, hok, hne, hl, ha => by
    rw [List.length_cons] at hl ha
    obtain ⟨g, x, rfl⟩ : ∃ g x, f = g ++ [x] := ⟨f.dropLast, f.getLast hne, (List.dropLast_concat_getLast hne).symm⟩
    have hx : x.length + (t.length + 1) < 1000 := ha x (by simp)
    have hg : ∀ a ∈ g, a.length + (t.length + 1) < 1000 := fun a h => ha a (by simp [h])
    have hlg : g.length + 1 + (t.length + 1) < 1000 := by simpa using hl
    have hc : c < 1114112 := hok c (by simp)
    obtain ⟨y', e⟩ := rows_loop T t (ext (g ++ [x]) c) (some (.str [c])) (fun c h => hok c (by simp [h])) (by unfold ext; split <;> simp) (by unfold ext; split <;> simp <;> omega) (by
      intro a h
      unfold ext at h
      split at h
      · rcases List.mem_append.mp h with h | h
        · have := ha a h; omega
        · have : a = [] := by simpa using h
          subst this; simp; omega
      · simp at h
        rcases h with h | h
        · have := hg a h; omega
        · subst h; simp; omega)
    refine ⟨y', ?_⟩
    rw [List.map_cons, List.foldl_cons, forL_cons (r1 := [some T, some (.lst ((g ++ [x]).map .str)), some (.str [c])]) (r2 := [some T, some (.lst ((ext (g ++ [x]) c).map .str)), some (.str [c])]) (by simp) ?_]
    · exact e
    · by_cases h : c = 10
      · have ea : addD .S (.lst ((g ++ [x]).map .str)) (.lst [.str []]) = some (.lst ((g ++ [x]).map .str ++ [.str []])) := by
          show (if (lim _ && fitK .S _) = true then _ else _) = _
          rw [lim_of (by simp; omega)]; rfl
        have : ext (g ++ [x]) c = (g ++ [x]) ++ [[]] := by simp [ext, h]
        rw [this]
        simp only [sSet_k, fIf_k, fB_k, m2_k, fVar_k]
        subst h
        simp only [List.getElem?_cons_succ, List.getElem?_cons_zero, kV_some, kM2_ok, fC_k, kM2b_ok, eq_c hc hc, lO_some, kFB_ok, kIt_ok, decide_true, if_true, m2_k, fVar_k, fLst_k, fCons_k, kC1_ok, fNil_ok, kC2_ok, kL_ok, lst1, ea, kSt_ok]
        simp
      · have es : sliceD .S (.lst ((g ++ [x]).map .str)) none (some (-1)) = some (.lst (g.map .str)) := by
          rw [sl_lS, cutL_m1]; simp
        have ei : ixD (.lst ((g ++ [x]).map .str)) (.int (-1)) = some (.str x) := by
          show atI _ _ = _
          rw [List.map_append]
          exact atI_m1
        have ex : addD .S (.str x) (.str [c]) = some (.str (x ++ [c])) := add_s (lim_of (by simp; omega))
        have ea : addD .S (.lst (g.map .str)) (.lst [.str (x ++ [c])]) = some (.lst (g.map .str ++ [.str (x ++ [c])])) := by
          show (if (lim _ && fitK .S _) = true then _ else _) = _
          rw [lim_of (by simp; omega)]; rfl
        have : ext (g ++ [x]) c = g ++ [x ++ [c]] := by simp [ext, h]
        rw [this]
        have h10 : (10 : Nat) < 1114112 := by decide
        have hm1 : (-(1 : Int)) = -1 := rfl
        simp only [sSet_k, fIf_k, fB_k, m2_k, fVar_k, List.getElem?_cons_succ, List.getElem?_cons_zero, kV_some, kM2_ok, fC_k, kM2b_ok, eq_c hc h10, lO_some, kFB_ok, kIt_ok, h, decide_false, Bool.false_eq_true, if_false, fSl_k, kS1_ok, fNo_ok, kS2_ok, fPart_k, fn1_k, kF1_ok, neg_i, kP_ok, kS3_ok, es, ei, ex, ea, fLst_k, fCons_k, kC1_ok, fNil_ok, kC2_ok, kL_ok, lst1, kSt_ok, hm1]
        simp
theorem lrows_ok {t : List Nat} (X : TX t) : rs (m__law_rows [.str t]) = .ok (.lst ((rws t).map .str)) := by
  show rs (runB 3 b__law_rows _) = _
  rw [rs_run]
  show rF (b__law_rows [some (.str t), none, none]) = _
  unfold b__law_rows
  have hx := X.len
  obtain ⟨y, e⟩ := rows_loop (.str t) t [[]] none X.ok (by simp) (by simp; omega) (by simp; omega)
  have e2 := ext_rws t [] []
  rw [List.nil_append, pre_nil] at e2
  rw [show t.foldl ext [[]] = rws t from e2, List.map_cons, List.map_nil] at e
  simp only [sS_k, sSet_k, fLst_k, fCons_k, fC_k, fNil_ok, kC1_ok, kC2_ok, kL_ok, lst1, lO_some, kSt_ok, kS_nx, List.set_cons_succ, List.set_cons_zero, sFor_k, fIt_k, fVar_k, List.getElem?_cons_zero, kV_some, kI_ok, strO_s, kFo_ok]
  rw [show forL _ _ _ _ = _ from e]
  simp
end Law

set_option Elab.async false
set_option linter.all false
set_option maxRecDepth 100000
set_option maxHeartbeats 400000
namespace Law
open PySem L2 Mir
theorem dn_iff (p : Nat → Bool) : ∀ (i k : Nat), k ≤ i → ((∀ s, k ≤ s → s < i → p s = true) ↔ dn p i ≤ k)
  | 0, k, h => by simp [dn]
  | i + 1, k, h => by
    unfold dn
    by_cases hp : p i = true
    · rw [if_pos hp]
      by_cases hk : k ≤ i
      · rw [← dn_iff p i k hk]
        constructor
        · intro h s h1 h2; exact h s h1 (by omega)
        · intro h s h1 h2
          by_cases e : s = i
          · subst e; exact hp
          · exact h s h1 (by omega)
      · have := dn_le p i
        constructor
        · intro _; omega
        · intro _ s h1 h2; omega
    · rw [if_neg hp]
      constructor
      · intro h'
        by_cases hk : k ≤ i
        · exact absurd (h' i hk (by omega)) hp
        · omega
      · intro h' s h1 h2; omega
theorem up_iff (p : Nat → Bool) : ∀ (m i k : Nat), i ≤ k → k ≤ i + m → ((∀ s, i ≤ s → s < k → p s = true) ↔ k ≤ up p m i)
  | 0, i, k, h, h2 => by
    unfold up
    constructor
    · intro _; omega
    · intro _ s h1 h2; omega
  | m + 1, i, k, h, h2 => by
    unfold up
    by_cases hp : p i = true
    · rw [if_pos hp]
      by_cases hk : i + 1 ≤ k
      · rw [← up_iff p m (i + 1) k hk (by omega)]
        constructor
        · intro h s h1 h2; exact h s (by omega) h2
        · intro h s h1 h2
          by_cases e : s = i
          · subst e; exact hp
          · exact h s (by omega) h2
      · have := (up_le p m (i + 1)).1
        constructor
        · intro _; omega
        · intro _ s h1 h2; omega
    · rw [if_neg hp]
      constructor
      · intro h'
        by_cases hk : i < k
        · exact absurd (h' i (by omega) hk) hp
        · omega
      · intro h' s h1 h2; omega
theorem slice_all {t : List Nat} {p : Nat → Bool} {k i : Nat} (h : i ≤ t.length) : ((t.drop k).take (i - k)).all p = true ↔ ∀ s, k ≤ s → s < i → p (at' t s) = true := by
  rw [List.all_eq_true]
  constructor
  · intro h' s h1 h2
    refine h' _ ?_
    have hs : s < t.length := by omega
    rw [← at_get hs]
    refine List.mem_iff_getElem.mpr ⟨s - k, by simp; omega, ?_⟩
    simp [show k + (s - k) = s by omega]
  · intro h' c hc
    obtain ⟨j, hj, rfl⟩ := List.mem_iff_getElem.mp hc
    simp at hj
    have hs : k + j < t.length := by omega
    have := h' (k + j) (by omega) (by omega)
    rw [← at_get hs] at this
    simpa using this
theorem filter_empty {p : Nat → Bool} : ∀ {l : List Nat}, (l.filter fun c => !p c).isEmpty = l.all p
  | [] => rfl
  | c :: l => by
    by_cases h : p c = true
    · simp [h, filter_empty (l := l)]
    · simp [h]
theorem up_congr {p q : Nat → Bool} : ∀ (m i : Nat), (∀ s, i ≤ s → p s = q s) → up p m i = up q m i
  | 0, i, _ => rfl
  | m + 1, i, h => by
    unfold up
    rw [h i (Nat.le_refl _), up_congr m (i + 1) fun s hs => h s (by omega)]
theorem dn_congr {p q : Nat → Bool} : ∀ (i : Nat), (∀ s, s < i → p s = q s) → dn p i = dn q i
  | 0, _ => rfl
  | i + 1, h => by
    unfold dn
    rw [h i (by omega), dn_congr i fun s hs => h s (by omega)]
theorem up_no {p : Nat → Bool} {m i : Nat} (h : p i = false) : up p m i = i := by
  cases m <;> simp [up, h]
theorem dn_no {p : Nat → Bool} {i : Nat} (h : ∀ s, p s = false) : dn p i = i := by
  cases i <;> simp [dn, h]
/-- the law's walk to the end of what stands at a place -/
def hereP (t : List Nat) (i s : Nat) : Bool := decide (i ≤ s) && (!gap t i && decide (kd (at' t s) = kd (at' t i)))
theorem here_eq {t : List Nat} {i : Nat} (h : i ≤ t.length) : up (hereP t i) (t.length - i) i = nx1 t i := by
  unfold nx1
  by_cases h1 : i < t.length
  · by_cases h2 : gap t i = false
    · rw [if_pos ⟨h1, h2⟩]
      exact up_congr _ _ fun s hs => by simp [hereP, hs, h2]
    · rw [if_neg (fun x => h2 x.2)]
      exact up_no (by simp [hereP, h2])
  · rw [if_neg (fun x => h1 x.1), show t.length - i = 0 by omega]
    rfl
theorem ready_head (p : Nat → Bool) : ∀ (m h : Nat), ∃ l, ((List.range' h m).filter fun k => !p k) ++ [h + m] = up p m h :: l
  | 0, h => ⟨[], rfl⟩
  | m + 1, h => by
    rw [List.range'_succ]
    unfold up
    by_cases hp : p h = true
    · obtain ⟨l, e⟩ := ready_head p m (h + 1)
      refine ⟨l, ?_⟩
      rw [if_pos hp, ← e]
      simp [hp]; omega
    · rw [if_neg hp]
      exact ⟨((List.range' (h + 1) m).filter fun k => !p k) ++ [h + (m + 1)], by simp [hp]⟩
theorem filter_head {P : Nat → Bool} {i m : Nat} (h : m < i) (hp : P m = true) (hn : ∀ k, k < m → P k = false) : ∃ l, (List.range i).filter P = m :: l := by
  have e : List.range i = List.range m ++ List.range' m (i - m) := by
    have := List.range'_append_1 (s := 0) (m := m) (n := i - m)
    rw [List.range_eq_range', List.range_eq_range']
    rw [Nat.zero_add, show m + (i - m) = i by omega] at this
    exact this.symm
  have e2 : List.range' m (i - m) = m :: List.range' (m + 1) (i - m - 1) := by
    obtain ⟨j, hj⟩ : ∃ j, i - m = j + 1 := ⟨i - m - 1, by omega⟩
    rw [hj, List.range'_succ]; rfl
  refine ⟨(List.range' (m + 1) (i - m - 1)).filter P, ?_⟩
  rw [e, List.filter_append, e2, List.filter_cons_of_pos hp, List.filter_eq_nil_iff.mpr (fun k hk => by simp [hn k (List.mem_range.mp hk)])]
  rfl
def full (t : List Nat) (i : Nat) : List Nat := (List.range i).filter fun k => !gap t k
theorem full_last (p : Nat → Bool) : ∀ (i : Nat), (dn p i = 0 ∧ ((List.range i).filter fun k => !p k) = []) ∨ (0 < dn p i ∧ ∃ l, ((List.range i).filter fun k => !p k) = l ++ [dn p i - 1] ∧ p (dn p i - 1) = false)
  | 0 => .inl ⟨rfl, rfl⟩
  | i + 1 => by
    unfold dn
    rw [List.range_succ, List.filter_append]
    by_cases hp : p i = true
    · rw [if_pos hp]
      have e : ([i].filter fun k => !p k) = [] := by simp [hp]
      rw [e, List.append_nil]
      exact full_last p i
    · rw [if_neg hp]
      have e : ([i].filter fun k => !p k) = [i] := by simp [hp]
      rw [e]
      exact .inr ⟨by omega, _, rfl, by simpa using hp⟩
theorem words_eq : ∀ (t : List Nat) (b : Bool), ((List.range t.length).filter fun k => isW (at' t k) && (if k = 0 then !b else !isW (at' t (k - 1)))).length = wc b t
  | [], b => rfl
  | c :: t, b => by
    rw [List.length_cons, List.range_succ_eq_map, List.filter_cons, List.filter_map]
    have ih := words_eq t (isW c)
    have e : ((fun k => isW (at' (c :: t) k) && (if k = 0 then !b else !isW (at' (c :: t) (k - 1)))) ∘ Nat.succ) = fun k => isW (at' t k) && (if k = 0 then !isW c else !isW (at' t (k - 1))) := by
      funext k
      cases k <;> simp [at']
    rw [e]
    unfold wc
    have h0 : at' (c :: t) 0 = c := rfl
    by_cases h : (isW c && !b) = true
    · rw [if_pos (by rw [h0]; simpa using h), if_pos h, List.length_cons, List.length_map, ih]; omega
    · rw [if_neg (by rw [h0]; simpa using h), if_neg h, List.length_map, ih]; omega
end Law

set_option Elab.async false
set_option linter.all false
set_option maxRecDepth 100000
set_option maxHeartbeats 400000
namespace Law
open PySem L2 Mir
def st1 : Rho → Fl := sSet 5 (fn1 maxD (fLc .S [6] (fItA rg1D (fCons (fn1 lenN (fVar 3)) (fNil))) (bNm 6) (fB (m2 leD (m2 ixD (fVar 4) (fVar 6)) (fVar 7))) (fVar 6)))
def st2 : Rho → Fl := sIf (fOr (fB (m2 neD (fCall [none, none] m_row_and_column (fCons (fVar 2) (fCons (fVar 7) (fNil)))) (fTup (fCons (fVar 5) (fCons (m2 subD (fVar 7) (m2 ixD (fVar 4) (fVar 5))) (fNil)))))) (fB (m2 neD (fCall [none, none, none] m_at_of (fCons (fVar 2) (fCons (fVar 5) (fCons (m2 subD (fVar 7) (m2 ixD (fVar 4) (fVar 5))) (fNil))))) (fVar 7)))) (sRet (fC (.bl false))) (sNx)
def st3 : Rho → Fl := sSet 9 (fn1 minD (fLc .S [6] (fItA rg1D (fCons (m2 (addD .S) (fVar 7) (fC (.int 1))) (fNil))) (bNm 6) (fB (m2 eqD (fLc .S [8] (fIt strO (fSl .S (fVar 2) (fPart (fVar 6)) (fPart (fVar 7)))) (bNm 8) (fB (m2 (inD true) (fVar 8) (fC (.str g_LETTERS)))) (fVar 8)) (fLst .S (fNil)))) (fVar 6)))
def st4 : Rho → Fl := sSet 10 (fn1 maxD (fLc .S [6] (fItA rg2D (fCons (fVar 7) (fCons (m2 (addD .S) (fn1 lenN (fVar 2)) (fC (.int 1))) (fNil)))) (bNm 6) (fB (m2 eqD (fLc .S [8] (fIt strO (fSl .S (fVar 2) (fPart (fVar 7)) (fPart (fVar 6)))) (bNm 8) (fB (m2 (inD true) (fVar 8) (fC (.str g_LETTERS)))) (fVar 8)) (fLst .S (fNil)))) (fVar 6)))
def st5 : Rho → Fl := sIf (fB (m2 neD (fCall [none, none] m_word_at (fCons (fVar 2) (fCons (fVar 7) (fNil)))) (fTup (fCons (fVar 9) (fCons (fVar 10) (fNil)))))) (sRet (fC (.bl false))) (sNx)
def st6 : Rho → Fl := sSet 11 (fVar 7)
def st7 : Rho → Fl := whileL (fAnd (fB (m2 ltD (fVar 11) (fn1 lenN (fVar 2)))) (fAnd (fB (m2 geD (fVar 11) (fVar 7))) (fAnd (fB (m2 neD (fCall [none] m__law_kind (fCons (m2 ixD (fVar 2) (fVar 7)) (fNil))) (fC (.str [115, 112, 97, 99, 101])))) (fB (m2 eqD (fCall [none] m__law_kind (fCons (m2 ixD (fVar 2) (fVar 11)) (fNil))) (fCall [none] m__law_kind (fCons (m2 ixD (fVar 2) (fVar 7)) (fNil)))))))) (sSet 11 (m2 (addD .S) (fVar 11) (fC (.int 1)))) 1000000
def st8 : Rho → Fl := sSet 12 (m2 (addD .S) (fLc .S [6] (fItA rg2D (fCons (fVar 11) (fCons (fn1 lenN (fVar 2)) (fNil)))) (bNm 6) (fB (m2 neD (fCall [none] m__law_kind (fCons (m2 ixD (fVar 2) (fVar 6)) (fNil))) (fC (.str [115, 112, 97, 99, 101])))) (fVar 6)) (fLst .S (fCons (fn1 lenN (fVar 2)) (fNil))))
def st9 : Rho → Fl := sIf (fB (m2 neD (fCall [none, none] m_next_word (fCons (fVar 2) (fCons (fVar 7) (fNil)))) (m2 ixD (fVar 12) (fC (.int 0))))) (sRet (fC (.bl false))) (sNx)
def st10 : Rho → Fl := sSet 13 (fLc .S [6] (fItA rg1D (fCons (fVar 7) (fNil))) (bNm 6) (fB (m2 neD (fCall [none] m__law_kind (fCons (m2 ixD (fVar 2) (fVar 6)) (fNil))) (fC (.str [115, 112, 97, 99, 101])))) (fVar 6))
def st11 : Rho → Fl := sSet 14 (fLc .S [6] (fIt lstO (fVar 13)) (bNm 6) (fB (m2 eqD (fLc .S [8] (fIt strO (fSl .S (fVar 2) (fPart (fVar 6)) (fPart (m2 (addD .S) (m2 ixD (fVar 13) (fn1 negD (fC (.int 1)))) (fC (.int 1)))))) (bNm 8) (fB (m2 neD (fCall [none] m__law_kind (fCons (fVar 8) (fNil))) (fCall [none] m__law_kind (fCons (m2 ixD (fVar 2) (m2 ixD (fVar 13) (fn1 negD (fC (.int 1))))) (fNil))))) (fVar 8)) (fLst .S (fNil)))) (fVar 6))
def st12 : Rho → Fl := sIf (fB (m2 neD (fCall [none, none] m_last_word (fCons (fVar 2) (fCons (fVar 7) (fNil)))) (fIf (fB (m2 neD (fVar 14) (fLst .S (fNil)))) (m2 ixD (fVar 14) (fC (.int 0))) (fC (.int 0))))) (sRet (fC (.bl false))) (sNx)
def st13 : Rho → Fl := sPar2 15 16 (fCons (fVar 5) (fCons (fVar 5) (fNil)))
def st14 : Rho → Fl := whileL (fAnd (fNot (fB (fCall [none] m__law_bare (fCons (m2 ixD (fVar 3) (fVar 5)) (fNil))))) (fAnd (fB (m2 gtD (fVar 15) (fC (.int 0)))) (fNot (fB (fCall [none] m__law_bare (fCons (m2 ixD (fVar 3) (m2 subD (fVar 15) (fC (.int 1)))) (fNil))))))) (sSet 15 (m2 subD (fVar 15) (fC (.int 1)))) 1000000
def st15 : Rho → Fl := whileL (fAnd (fNot (fB (fCall [none] m__law_bare (fCons (m2 ixD (fVar 3) (fVar 5)) (fNil))))) (fAnd (fB (m2 ltD (fVar 16) (m2 subD (fn1 lenN (fVar 3)) (fC (.int 1))))) (fNot (fB (fCall [none] m__law_bare (fCons (m2 ixD (fVar 3) (m2 (addD .S) (fVar 16) (fC (.int 1)))) (fNil))))))) (sSet 16 (m2 (addD .S) (fVar 16) (fC (.int 1)))) 1000000
def st16 : Rho → Fl := sIf (fB (m2 neD (fCall [none, none] m_paragraph (fCons (fVar 2) (fCons (fVar 7) (fNil)))) (fTup (fCons (fVar 15) (fCons (fVar 16) (fNil)))))) (sRet (fC (.bl false))) (sNx)
def st17 : Rho → Fl := sPar2 17 18 (fCons (m2 subD (fCall [some 1, none] m__law_roll (fRef 1 (fCons (fC (.int 7)) (fNil)))) (fC (.int 3))) (fCons (fCall [some 1, none] m__law_roll (fRef 1 (fCons (fC (.int 8)) (fNil)))) (fNil)))
def st18 : Rho → Fl := sSet 19 (m2 min2D (m2 subD (fn1 lenN (fVar 3)) (fC (.int 1))) (m2 max2D (fC (.int 0)) (m2 (addD .S) (fVar 5) (fVar 17))))
def st19 : Rho → Fl := sIf (fB (m2 neD (fCall [none, none, none, none] m_up_or_down (fCons (fVar 2) (fCons (fVar 7) (fCons (fVar 17) (fCons (fVar 18) (fNil)))))) (m2 (addD .S) (m2 ixD (fVar 4) (fVar 19)) (m2 min2D (fVar 18) (fn1 lenN (m2 ixD (fVar 3) (fVar 19))))))) (sRet (fC (.bl false))) (sNx)
def b_loop : Rho → Fl := sS st1 (sS st2 (sS st3 (sS st4 (sS st5 (sS st6 (sS st7 (sS st8 (sS st9 (sS st10 (sS st11 (sS st12 (sS st13 (sS st14 (sS st15 (sS st16 (sS st17 (sS st18 (st19))))))))))))))))))
def ot1 : Rho → Fl := sSet 2 (fCall [some 1, none] m__law_text (fRef 1 (fCons (fC (.int 30)) (fNil))))
def ot2 : Rho → Fl := sSet 3 (fCall [none] m__law_rows (fCons (fVar 2) (fNil)))
def ot3 : Rho → Fl := sSet 4 (fLc .S [6] (fItA rg1D (fCons (fn1 lenN (fVar 3)) (fNil))) (bNm 6) (fYes) (fn1 sumD (fLc .S [5] (fIt lstO (fSl .S (fVar 3) (fNo) (fPart (fVar 6)))) (bNm 5) (fYes) (m2 (addD .S) (fn1 lenN (fVar 5)) (fC (.int 1))))))
def ot4 : Rho → Fl := sIf (fOr (fB (m2 neD (fn1 (listD .S) (fCall [none] m_rows_of (fCons (fVar 2) (fNil)))) (fVar 3))) (fB (m2 neD (fn1 (listD .S) (fCall [none] m_starts_of (fCons (fVar 2) (fNil)))) (fVar 4)))) (sRet (fC (.bl false))) (sNx)
def ot5 : Rho → Fl := sIf (fB (m2 neD (fLc .S [7] (fItA rg1D (fCons (fn1 lenN (fVar 2)) (fNil))) (bNm 7) (fYes) (fCall [none, none] m_kind_at (fCons (fVar 2) (fCons (fVar 7) (fNil))))) (fLc .S [8] (fIt strO (fVar 2)) (bNm 8) (fYes) (fCall [none] m__law_kind (fCons (fVar 8) (fNil)))))) (sRet (fC (.bl false))) (sNx)
def ot6 : Rho → Fl := sFor (fItA rg1D (fCons (m2 (addD .S) (fn1 lenN (fVar 2)) (fC (.int 1))) (fNil))) (bNm 7) b_loop
def ot7 : Rho → Fl := sAsg (fTup (fCons (fCall [some 1, none] m__law_roll (fRef 1 (fCons (m2 (addD .S) (fn1 lenN (fVar 3)) (fC (.int 1))) (fNil)))) (fCons (fCall [some 1, none] m__law_roll (fRef 1 (fCons (fC (.int 12)) (fNil)))) (fNil)))) (bTup 2 (bCons (bNm 5) (bCons (bNm 20) (bNil))))
def ot8 : Rho → Fl := sIf (fB (m2 neD (fTold okT [80, 108, 97, 99, 101, 69, 114, 114, 111, 114] (fCall [none, none, none] m_at_of (fCons (fVar 2) (fCons (fVar 5) (fCons (fVar 20) (fNil)))))) (fIf (fB (m2 ltD (fVar 5) (fn1 lenN (fVar 3)))) (m2 (addD .S) (m2 ixD (fVar 4) (fVar 5)) (m2 min2D (fVar 20) (fn1 lenN (m2 ixD (fVar 3) (fVar 5))))) (fC (.str [80, 108, 97, 99, 101, 69, 114, 114, 111, 114]))))) (sRet (fC (.bl false))) (sNx)
def ot9 : Rho → Fl := sSet 21 (fn1 lenN (fLc .S [6] (fItA rg1D (fCons (fn1 lenN (fVar 2)) (fNil))) (bNm 6) (fAnd (fB (m2 (inD false) (m2 ixD (fVar 2) (fVar 6)) (fC (.str g_LETTERS)))) (fOr (fB (m2 eqD (fVar 6) (fC (.int 0)))) (fB (m2 (inD true) (m2 ixD (fVar 2) (m2 subD (fVar 6) (fC (.int 1)))) (fC (.str g_LETTERS)))))) (fVar 6)))
def ot10 : Rho → Fl := sIf (fB (m2 neD (fCall [none] m_counted (fCons (fVar 2) (fNil))) (fTup (fCons (fn1 lenN (fVar 2)) (fCons (fVar 21) (fCons (fn1 lenN (fVar 3)) (fCons (fn1 maxD (fLc .S [22] (fIt lstO (fVar 3)) (bNm 22) (fYes) (fn1 lenN (fVar 22)))) (fNil)))))))) (sRet (fC (.bl false))) (sNx)
def b_round : Rho → Fl := sS ot1 (sS ot2 (sS ot3 (sS ot4 (sS ot5 (sS ot6 (sS ot7 (sS ot8 (sS ot9 (ot10)))))))))
theorem b_law_eq : b_law = sS (sForF 1 (fCall [none, none] m__law_rounds (fCons (fVar 0) (fCons (fC (.int 1)) (fNil)))) b_round) (sRet (fCall [] m__law_plain fNil)) := rfl
end Law

set_option Elab.async false
set_option linter.all false
set_option maxRecDepth 100000
set_option maxHeartbeats 800000
namespace Law
open PySem L2 Mir
section
variable {t : List Nat} {i : Nat} {x0 x1 x2 x3 x4 x5 x6 x7 x8 x9 x10 x11 x12 x13 x14 x15 x16 x17 x18 x19 x20 x21 x22 : Option D}
def jN : Nat → D := fun j => D.int (j : Int)
theorem iN_eq (l : List Nat) : iN l = l.map jN := rfl
theorem rg1j {n : Nat} (h : n ≤ 100000) : rg1D [.int (n : Int)] = some ((List.range n).map jN) := rg1 h
theorem rg2j {a n : Nat} (h : n ≤ 100000) (ha : a ≤ 100000) : rg2D [.int (a : Int), .int (n : Int)] = some ((List.range' a (n - a)).map jN) := rg2 h ha
theorem rl (X : TX t) : (rws t).length ≤ 100 := by
  have := X.len; have := cn_le t; rw [rws_len]; omega
theorem max_j {l : List Nat} {a : Nat} (ha : a ∈ l) (h : ∀ b ∈ l, b ≤ a) : maxD (.lst (l.map jN)) = some (.int (a : Nat)) := max_of (f := fun (k : Nat) => (k : Int)) ha (fun b hb => by have := h b hb; omega)
theorem min_j {l : List Nat} {a : Nat} (ha : a ∈ l) (h : ∀ b ∈ l, a ≤ b) : minD (.lst (l.map jN)) = some (.int (a : Nat)) := min_of (f := fun (k : Nat) => (k : Int)) ha (fun b hb => by have := h b hb; omega)
theorem S_ro {t : List Nat} {i : Nat} (h : i ≤ t.length) : S (rws t) (ro t i) ≤ i := (S_le_iff t i (ro t i) h (ro_lt t i)).mpr (Nat.le_refl _)
theorem ro_in {t : List Nat} {i : Nat} (h : i ≤ t.length) : i ≤ S (rws t) (ro t i) + (rk t (ro t i)).length := S_in t i h
theorem nand {l : List Nat} {f : Nat → List Nat} (h : ∀ d ∈ l, okS (f d) = true) : ∀ d ∈ l.map (fun c => D.str (f c)), okD 59 d = true := by
  intro d hd
  obtain ⟨c, hc, rfl⟩ := List.mem_map.mp hd
  simp [h c hc]
theorem int2 (a b : Int) : okD 60 (.tup [.int a, .int b]) = true := okD_tup.mpr (by simp)
theorem int4 (a b c d : Int) : okD 60 (.tup [.int a, .int b, .int c, .int d]) = true := okD_tup.mpr (by simp)
theorem rl5 (X : TX t) : (rws t).length ≤ 100000 := Nat.le_trans (rl X) (by decide)
theorem rlr (X : TX t) : (List.range (rws t).length).length ≤ 100000 := by rw [List.length_range]; exact rl5 X
theorem t5 (X : TX t) : t.length + 1 ≤ 100000 := Nat.le_trans (Nat.succ_le_succ X.len) (by decide)
theorem t4 (X : TX t) : t.length ≤ 100000 := Nat.le_trans X.len (by decide)
theorem i5 (h : i ≤ t.length) (X : TX t) : i + 1 ≤ 100000 := Nat.le_trans (Nat.succ_le_succ h) (t5 X)
theorem i4 (h : i ≤ t.length) (X : TX t) : i ≤ 100000 := Nat.le_trans h (t4 X)
theorem irr (h : i ≤ t.length) (X : TX t) : (List.range (i + 1)).length ≤ 100000 := by rw [List.length_range]; exact i5 h X
theorem irr0 (h : i ≤ t.length) (X : TX t) : (List.range i).length ≤ 100000 := by rw [List.length_range]; exact i4 h X
theorem ir' (X : TX t) : (List.range' i (t.length + 1 - i)).length ≤ 100000 := by rw [List.length_range']; exact Nat.le_trans (Nat.sub_le _ _) (t5 X)
theorem ir'2 (X : TX t) {h : Nat} : (List.range' h (t.length - h)).length ≤ 100000 := by rw [List.length_range']; exact Nat.le_trans (Nat.sub_le _ _) (t4 X)
def sl (t : List Nat) (k i : Nat) : List Nat := (t.drop k).take (i - k)
theorem sl_ok (X : TX t) (k j : Nat) : ∀ c ∈ sl t k j, c < 1114112 := fun c hc => X.ok c ((List.drop_sublist _ _).subset ((List.take_sublist _ _).subset hc))
theorem sl_lim (X : TX t) (k j : Nat) : (sl t k j).length ≤ 100000 := by
  have := X.len; unfold sl; simp; omega
theorem eq_nilS {l : List Nat} (h : ∀ c ∈ l, c < 1114112) : eqD (.lst (l.map fun c => D.str [c])) (.lst []) = some (.bl l.isEmpty) := by
  rw [eq_nil (nand (f := fun c => [c]) fun c hc => by simp [okS, h c hc])]
  cases l <;> rfl
theorem q1 (X : TX t) : rg1D [.int ((rws t).length : Nat)] = some ((List.range (rws t).length).map jN) := rg1j (rl5 X)
theorem q2 {l : List D} (h : rg1D [.int ((rws t).length : Nat)] = some l) : fItA rg1D (fCons (fn1 lenN (fVar 3)) (fNil)) [x0, x1, some (.str t), some (.lst ((rws t).map .str)), some (.lst (iN (stl t))), x5, x6, some (.int (i : Nat)), x8, x9, x10, x11, x12, x13, x14, x15, x16, x17, x18, x19, x20, x21, x22] = .ok l [x0, x1, some (.str t), some (.lst ((rws t).map .str)), some (.lst (iN (stl t))), x5, x6, some (.int (i : Nat)), x8, x9, x10, x11, x12, x13, x14, x15, x16, x17, x18, x19, x20, x21, x22] := fItA_ok (x := [.int ((rws t).length : Nat)]) (by simp) h
theorem hi1 (X : TX t) : fItA rg1D (fCons (fn1 lenN (fVar 3)) (fNil)) [x0, x1, some (.str t), some (.lst ((rws t).map .str)), some (.lst (iN (stl t))), x5, x6, some (.int (i : Nat)), x8, x9, x10, x11, x12, x13, x14, x15, x16, x17, x18, x19, x20, x21, x22] = .ok ((List.range (rws t).length).map jN) [x0, x1, some (.str t), some (.lst ((rws t).map .str)), some (.lst (iN (stl t))), x5, x6, some (.int (i : Nat)), x8, x9, x10, x11, x12, x13, x14, x15, x16, x17, x18, x19, x20, x21, x22] := q2 (q1 X)
theorem t1 (h : i ≤ t.length) (X : TX t) : ∀ k, k ∈ List.range (rws t).length → (fB (m2 leD (m2 ixD (fVar 4) (fVar 6)) (fVar 7))) (List.set [x0, x1, some (.str t), some (.lst ((rws t).map .str)), some (.lst (iN (stl t))), x5, x6, some (.int (i : Nat)), x8, x9, x10, x11, x12, x13, x14, x15, x16, x17, x18, x19, x20, x21, x22] 6 (some (jN k))) = .ok (decide (S (rws t) k ≤ i)) (List.set [x0, x1, some (.str t), some (.lst ((rws t).map .str)), some (.lst (iN (stl t))), x5, x6, some (.int (i : Nat)), x8, x9, x10, x11, x12, x13, x14, x15, x16, x17, x18, x19, x20, x21, x22] 6 (some (jN k))) := fun k hk => by simp [jN, ix_stL (List.mem_range.mp hk)]
theorem g1 (h : i ≤ t.length) (X : TX t) {r : Rho} (hi : fItA rg1D (fCons (fn1 lenN (fVar 3)) (fNil)) r = .ok ((List.range (rws t).length).map jN) r) (ht : ∀ k, k ∈ List.range (rws t).length → (fB (m2 leD (m2 ixD (fVar 4) (fVar 6)) (fVar 7))) (r.set 6 (some (jN k))) = .ok (decide (S (rws t) k ≤ i)) (r.set 6 (some (jN k)))) (he : ∀ k, fVar 6 (r.set 6 (some (jN k))) = .ok (jN k) (r.set 6 (some (jN k)))) : fLc .S [6] (fItA rg1D (fCons (fn1 lenN (fVar 3)) (fNil))) (bNm 6) (fB (m2 leD (m2 ixD (fVar 4) (fVar 6)) (fVar 7))) (fVar 6) r = .ok (.lst (((List.range (rws t).length).filter fun k => decide (S (rws t) k ≤ i)).map jN)) r :=
  fLc_of hi ht (fun k _ _ => he k) (rlr X) (fun _ _ _ h => by cases h)
theorem m1 (h : i ≤ t.length) : maxD (.lst (((List.range (rws t).length).filter fun k => decide (S (rws t) k ≤ i)).map jN)) = some (.int (ro t i : Nat)) := max_j (a := ro t i) (by simp [ro_lt, S_ro h]) (by
    intro b hb
    simp only [List.mem_filter, List.mem_range, decide_eq_true_eq] at hb
    exact (S_le_iff t i b h hb.1).mp hb.2)
theorem f1 (h : i ≤ t.length) {r : Rho} (e : fLc .S [6] (fItA rg1D (fCons (fn1 lenN (fVar 3)) (fNil))) (bNm 6) (fB (m2 leD (m2 ixD (fVar 4) (fVar 6)) (fVar 7))) (fVar 6) r = .ok (.lst (((List.range (rws t).length).filter fun k => decide (S (rws t) k ≤ i)).map jN)) r) : st1 r = .nx (r.set 5 (some (.int (ro t i : Nat)))) := by
  unfold st1
  rw [sSet_ok (fn1_ok e (m1 h))]
theorem s1 (h : i ≤ t.length) (X : TX t) : st1 [x0, x1, some (.str t), some (.lst ((rws t).map .str)), some (.lst (iN (stl t))), x5, x6, some (.int (i : Nat)), x8, x9, x10, x11, x12, x13, x14, x15, x16, x17, x18, x19, x20, x21, x22] = .nx [x0, x1, some (.str t), some (.lst ((rws t).map .str)), some (.lst (iN (stl t))), some (.int (ro t i : Nat)), x6, some (.int (i : Nat)), x8, x9, x10, x11, x12, x13, x14, x15, x16, x17, x18, x19, x20, x21, x22] := f1 h (g1 h X (hi1 X) (t1 h X) (fun _ => rfl))
theorem s2 (h : i ≤ t.length) (X : TX t) : st2 [x0, x1, some (.str t), some (.lst ((rws t).map .str)), some (.lst (iN (stl t))), some (.int (ro t i : Nat)), x6, some (.int (i : Nat)), x8, x9, x10, x11, x12, x13, x14, x15, x16, x17, x18, x19, x20, x21, x22] = .nx [x0, x1, some (.str t), some (.lst ((rws t).map .str)), some (.lst (iN (stl t))), some (.int (ro t i : Nat)), x6, some (.int (i : Nat)), x8, x9, x10, x11, x12, x13, x14, x15, x16, x17, x18, x19, x20, x21, x22] := by
  have h1 := ix_stL (ro_lt t i)
  have h2 := at_ok (k := ro t i) (c := (i : Int) - (S (rws t) (ro t i) : Nat)) (ro_lt t i) (by have := S_ro h; omega) X
  have h3 : ((S (rws t) (ro t i) : Nat) : Int) + min ((i : Int) - (S (rws t) (ro t i) : Nat)) (rk t (ro t i)).length = i := by have := S_ro h; have := ro_in h; omega
  rw [h3] at h2
  unfold st2
  simp [h1, rc_ok h X, h2, ne_self (int2 _ _)]
theorem inner1 (X : TX t) {k : Nat} (h : i ≤ t.length) (hk : k ≤ i) : fB (m2 eqD (fLc .S [8] (fIt strO (fSl .S (fVar 2) (fPart (fVar 6)) (fPart (fVar 7)))) (bNm 8) (fB (m2 (inD true) (fVar 8) (fC (.str g_LETTERS)))) (fVar 8)) (fLst .S (fNil))) [x0, x1, some (.str t), some (.lst ((rws t).map .str)), some (.lst (iN (stl t))), some (.int (ro t i : Nat)), some (jN k), some (.int (i : Nat)), x8, x9, x10, x11, x12, x13, x14, x15, x16, x17, x18, x19, x20, x21, x22] = .ok (decide (dW t i ≤ k)) [x0, x1, some (.str t), some (.lst ((rws t).map .str)), some (.lst (iN (stl t))), some (.int (ro t i : Nat)), some (jN k), some (.int (i : Nat)), x8, x9, x10, x11, x12, x13, x14, x15, x16, x17, x18, x19, x20, x21, x22] := by
  have e := fLc_of (k := .S) (v := 8) (f := fIt strO (fSl .S (fVar 2) (fPart (fVar 6)) (fPart (fVar 7)))) (t := fB (m2 (inD true) (fVar 8) (fC (.str g_LETTERS)))) (e := fVar 8) (r := [x0, x1, some (.str t), some (.lst ((rws t).map .str)), some (.lst (iN (stl t))), some (.int (ro t i : Nat)), some (jN k), some (.int (i : Nat)), x8, x9, x10, x11, x12, x13, x14, x15, x16, x17, x18, x19, x20, x21, x22]) (g := fun c => D.str [c]) (l := sl t k i) (pt := fun c => !isW c) (pe := fun c => D.str [c]) (by simp [jN, sl_s X.lim, cutL_nat h, sl]) (fun c _ => by simp [isW]) (fun c _ _ => by simp) (sl_lim X k i) (fun _ _ _ h => by cases h)
  have hq := eq_nilS (l := (sl t k i).filter fun c => !isW c) (fun c hc => sl_ok X k i c (List.mem_filter.mp hc).1)
  have hb : ((sl t k i).filter fun c => !isW c).isEmpty = decide (dW t i ≤ k) := by
    rw [filter_empty, Bool.eq_iff_iff, decide_eq_true_eq]
    exact (slice_all (p := isW) h).trans (dn_iff (fun s => isW (at' t s)) i k hk)
  rw [hb] at hq
  simp only [fB_k, m2_k, e, kM2_ok, fLst_k, fNil_ok, kL_ok, lst0, lO_some, kM2b_ok, hq, kFB_ok]
theorem q3 (h : i ≤ t.length) (X : TX t) : rg1D [.int (i + 1 : Nat)] = some ((List.range (i + 1)).map jN) := rg1j (i5 h X)
theorem q4 {l : List D} (h : rg1D [.int (i + 1 : Nat)] = some l) : fItA rg1D (fCons (m2 (addD .S) (fVar 7) (fC (.int 1))) (fNil)) [x0, x1, some (.str t), some (.lst ((rws t).map .str)), some (.lst (iN (stl t))), some (.int (ro t i : Nat)), x6, some (.int (i : Nat)), x8, x9, x10, x11, x12, x13, x14, x15, x16, x17, x18, x19, x20, x21, x22] = .ok l [x0, x1, some (.str t), some (.lst ((rws t).map .str)), some (.lst (iN (stl t))), some (.int (ro t i : Nat)), x6, some (.int (i : Nat)), x8, x9, x10, x11, x12, x13, x14, x15, x16, x17, x18, x19, x20, x21, x22] := fItA_ok (x := [.int (i + 1 : Nat)]) (by simp) h
theorem hi3 (h : i ≤ t.length) (X : TX t) : fItA rg1D (fCons (m2 (addD .S) (fVar 7) (fC (.int 1))) (fNil)) [x0, x1, some (.str t), some (.lst ((rws t).map .str)), some (.lst (iN (stl t))), some (.int (ro t i : Nat)), x6, some (.int (i : Nat)), x8, x9, x10, x11, x12, x13, x14, x15, x16, x17, x18, x19, x20, x21, x22] = .ok ((List.range (i + 1)).map jN) [x0, x1, some (.str t), some (.lst ((rws t).map .str)), some (.lst (iN (stl t))), some (.int (ro t i : Nat)), x6, some (.int (i : Nat)), x8, x9, x10, x11, x12, x13, x14, x15, x16, x17, x18, x19, x20, x21, x22] := q4 (q3 h X)
theorem g3 (h : i ≤ t.length) (X : TX t) {r : Rho} (hi : fItA rg1D (fCons (m2 (addD .S) (fVar 7) (fC (.int 1))) (fNil)) r = .ok ((List.range (i + 1)).map jN) r) (ht : ∀ k, k ∈ List.range (i + 1) → fB (m2 eqD (fLc .S [8] (fIt strO (fSl .S (fVar 2) (fPart (fVar 6)) (fPart (fVar 7)))) (bNm 8) (fB (m2 (inD true) (fVar 8) (fC (.str g_LETTERS)))) (fVar 8)) (fLst .S (fNil))) (r.set 6 (some (jN k))) = .ok (decide (dW t i ≤ k)) (r.set 6 (some (jN k)))) (he : ∀ k, fVar 6 (r.set 6 (some (jN k))) = .ok (jN k) (r.set 6 (some (jN k)))) : fLc .S [6] (fItA rg1D (fCons (m2 (addD .S) (fVar 7) (fC (.int 1))) (fNil))) (bNm 6) (fB (m2 eqD (fLc .S [8] (fIt strO (fSl .S (fVar 2) (fPart (fVar 6)) (fPart (fVar 7)))) (bNm 8) (fB (m2 (inD true) (fVar 8) (fC (.str g_LETTERS)))) (fVar 8)) (fLst .S (fNil)))) (fVar 6) r = .ok (.lst (((List.range (i + 1)).filter fun k => decide (dW t i ≤ k)).map jN)) r :=
  fLc_of hi ht (fun k _ _ => he k) (irr h X) (fun _ _ _ h => by cases h)
theorem m3 (h : i ≤ t.length) : minD (.lst (((List.range (i + 1)).filter fun k => decide (dW t i ≤ k)).map jN)) = some (.int (dW t i : Nat)) := min_j (a := dW t i) (by
    have : dW t i ≤ i := dn_le _ _
    simp; omega) (by
    intro b hb
    simp only [List.mem_filter, decide_eq_true_eq] at hb
    exact hb.2)
theorem f3 (h : i ≤ t.length) {r : Rho} (e : fLc .S [6] (fItA rg1D (fCons (m2 (addD .S) (fVar 7) (fC (.int 1))) (fNil))) (bNm 6) (fB (m2 eqD (fLc .S [8] (fIt strO (fSl .S (fVar 2) (fPart (fVar 6)) (fPart (fVar 7)))) (bNm 8) (fB (m2 (inD true) (fVar 8) (fC (.str g_LETTERS)))) (fVar 8)) (fLst .S (fNil)))) (fVar 6) r = .ok (.lst (((List.range (i + 1)).filter fun k => decide (dW t i ≤ k)).map jN)) r) : st3 r = .nx (r.set 9 (some (.int (dW t i : Nat)))) := by
  unfold st3
  rw [sSet_ok (fn1_ok e (m3 h))]
theorem s3 (h : i ≤ t.length) (X : TX t) : st3 [x0, x1, some (.str t), some (.lst ((rws t).map .str)), some (.lst (iN (stl t))), some (.int (ro t i : Nat)), x6, some (.int (i : Nat)), x8, x9, x10, x11, x12, x13, x14, x15, x16, x17, x18, x19, x20, x21, x22] = .nx [x0, x1, some (.str t), some (.lst ((rws t).map .str)), some (.lst (iN (stl t))), some (.int (ro t i : Nat)), x6, some (.int (i : Nat)), x8, some (.int (dW t i : Nat)), x10, x11, x12, x13, x14, x15, x16, x17, x18, x19, x20, x21, x22] := f3 h (g3 h X (hi3 h X) (fun k hk => inner1 X h (by have := List.mem_range.mp hk; omega)) (fun _ => rfl))
theorem inner2 (X : TX t) {k : Nat} (h : i ≤ k) (hk : k ≤ t.length) : fB (m2 eqD (fLc .S [8] (fIt strO (fSl .S (fVar 2) (fPart (fVar 7)) (fPart (fVar 6)))) (bNm 8) (fB (m2 (inD true) (fVar 8) (fC (.str g_LETTERS)))) (fVar 8)) (fLst .S (fNil))) [x0, x1, some (.str t), some (.lst ((rws t).map .str)), some (.lst (iN (stl t))), some (.int (ro t i : Nat)), some (jN k), some (.int (i : Nat)), x8, some (.int (dW t i : Nat)), x10, x11, x12, x13, x14, x15, x16, x17, x18, x19, x20, x21, x22] = .ok (decide (k ≤ uW t i)) [x0, x1, some (.str t), some (.lst ((rws t).map .str)), some (.lst (iN (stl t))), some (.int (ro t i : Nat)), some (jN k), some (.int (i : Nat)), x8, some (.int (dW t i : Nat)), x10, x11, x12, x13, x14, x15, x16, x17, x18, x19, x20, x21, x22] := by
  have e := fLc_of (k := .S) (v := 8) (f := fIt strO (fSl .S (fVar 2) (fPart (fVar 7)) (fPart (fVar 6)))) (t := fB (m2 (inD true) (fVar 8) (fC (.str g_LETTERS)))) (e := fVar 8) (r := [x0, x1, some (.str t), some (.lst ((rws t).map .str)), some (.lst (iN (stl t))), some (.int (ro t i : Nat)), some (jN k), some (.int (i : Nat)), x8, some (.int (dW t i : Nat)), x10, x11, x12, x13, x14, x15, x16, x17, x18, x19, x20, x21, x22]) (g := fun c => D.str [c]) (l := sl t i k) (pt := fun c => !isW c) (pe := fun c => D.str [c]) (by simp [jN, sl_s X.lim, cutL_nat hk, sl]) (fun c _ => by simp [isW]) (fun c _ _ => by simp) (sl_lim X i k) (fun _ _ _ h => by cases h)
  have hq := eq_nilS (l := (sl t i k).filter fun c => !isW c) (fun c hc => sl_ok X i k c (List.mem_filter.mp hc).1)
  have hb : ((sl t i k).filter fun c => !isW c).isEmpty = decide (k ≤ uW t i) := by
    rw [filter_empty, Bool.eq_iff_iff, decide_eq_true_eq]
    exact (slice_all (p := isW) hk).trans (up_iff (fun s => isW (at' t s)) (t.length - i) i k h (by omega))
  rw [hb] at hq
  simp only [fB_k, m2_k, e, kM2_ok, fLst_k, fNil_ok, kL_ok, lst0, lO_some, kM2b_ok, hq, kFB_ok]
theorem s4 (h : i ≤ t.length) (X : TX t) : st4 [x0, x1, some (.str t), some (.lst ((rws t).map .str)), some (.lst (iN (stl t))), some (.int (ro t i : Nat)), x6, some (.int (i : Nat)), x8, some (.int (dW t i : Nat)), x10, x11, x12, x13, x14, x15, x16, x17, x18, x19, x20, x21, x22] = .nx [x0, x1, some (.str t), some (.lst ((rws t).map .str)), some (.lst (iN (stl t))), some (.int (ro t i : Nat)), x6, some (.int (i : Nat)), x8, some (.int (dW t i : Nat)), some (.int (uW t i : Nat)), x11, x12, x13, x14, x15, x16, x17, x18, x19, x20, x21, x22] := by
  have hx := X.len
  have e := fLc_of (k := .S) (v := 6) (f := fItA rg2D (fCons (fVar 7) (fCons (m2 (addD .S) (fn1 lenN (fVar 2)) (fC (.int 1))) (fNil)))) (t := fB (m2 eqD (fLc .S [8] (fIt strO (fSl .S (fVar 2) (fPart (fVar 7)) (fPart (fVar 6)))) (bNm 8) (fB (m2 (inD true) (fVar 8) (fC (.str g_LETTERS)))) (fVar 8)) (fLst .S (fNil)))) (e := fVar 6) (r := [x0, x1, some (.str t), some (.lst ((rws t).map .str)), some (.lst (iN (stl t))), some (.int (ro t i : Nat)), x6, some (.int (i : Nat)), x8, some (.int (dW t i : Nat)), x10, x11, x12, x13, x14, x15, x16, x17, x18, x19, x20, x21, x22]) (g := jN) (l := List.range' i (t.length + 1 - i)) (pt := fun k => decide (k ≤ uW t i)) (pe := jN) (fItA_ok (x := [.int (i : Nat), .int (t.length + 1 : Nat)]) (by simp [len_s X.lim]) (rg2j (t5 X) (i4 h X))) (fun k hk => inner2 X (by have := List.mem_range'_1.mp hk; omega) (by have := List.mem_range'_1.mp hk; omega)) (fun k _ _ => by simp) (ir' X) (fun _ _ _ h => by cases h)
  have hm := max_j (l := (List.range' i (t.length + 1 - i)).filter fun k => decide (k ≤ uW t i)) (a := uW t i) (by
    have := up_le (fun s => isW (at' t s)) (t.length - i) i
    have e : uW t i = up (fun s => isW (at' t s)) (t.length - i) i := rfl
    rw [← e] at this
    simp; omega) (by
    intro b hb
    simp only [List.mem_filter, decide_eq_true_eq] at hb
    exact hb.2)
  unfold st4
  simp only [sSet_k, fn1_k, e, kF1_ok, hm, lO_some, kSt_ok]
  rfl
theorem s5 (h : i ≤ t.length) (X : TX t) : st5 [x0, x1, some (.str t), some (.lst ((rws t).map .str)), some (.lst (iN (stl t))), some (.int (ro t i : Nat)), x6, some (.int (i : Nat)), x8, some (.int (dW t i : Nat)), some (.int (uW t i : Nat)), x11, x12, x13, x14, x15, x16, x17, x18, x19, x20, x21, x22] = .nx [x0, x1, some (.str t), some (.lst ((rws t).map .str)), some (.lst (iN (stl t))), some (.int (ro t i : Nat)), x6, some (.int (i : Nat)), x8, some (.int (dW t i : Nat)), some (.int (uW t i : Nat)), x11, x12, x13, x14, x15, x16, x17, x18, x19, x20, x21, x22] := by
  unfold st5
  simp [word_ok h X, ne_self (int2 _ _)]
theorem s6 (h : i ≤ t.length) (X : TX t) : st6 [x0, x1, some (.str t), some (.lst ((rws t).map .str)), some (.lst (iN (stl t))), some (.int (ro t i : Nat)), x6, some (.int (i : Nat)), x8, some (.int (dW t i : Nat)), some (.int (uW t i : Nat)), x11, x12, x13, x14, x15, x16, x17, x18, x19, x20, x21, x22] = .nx [x0, x1, some (.str t), some (.lst ((rws t).map .str)), some (.lst (iN (stl t))), some (.int (ro t i : Nat)), x6, some (.int (i : Nat)), x8, some (.int (dW t i : Nat)), some (.int (uW t i : Nat)), some (.int (i : Nat)), x12, x13, x14, x15, x16, x17, x18, x19, x20, x21, x22] := by
  unfold st6
  simp
theorem s7 (h : i ≤ t.length) (X : TX t) : st7 [x0, x1, some (.str t), some (.lst ((rws t).map .str)), some (.lst (iN (stl t))), some (.int (ro t i : Nat)), x6, some (.int (i : Nat)), x8, some (.int (dW t i : Nat)), some (.int (uW t i : Nat)), some (.int (i : Nat)), x12, x13, x14, x15, x16, x17, x18, x19, x20, x21, x22] = .nx [x0, x1, some (.str t), some (.lst ((rws t).map .str)), some (.lst (iN (stl t))), some (.int (ro t i : Nat)), x6, some (.int (i : Nat)), x8, some (.int (dW t i : Nat)), some (.int (uW t i : Nat)), some (.int (nx1 t i : Nat)), x12, x13, x14, x15, x16, x17, x18, x19, x20, x21, x22] := by
  have hx := X.len
  unfold st7
  rw [while_up' (i := 11) (r := [x0, x1, some (.str t), some (.lst ((rws t).map .str)), some (.lst (iN (stl t))), some (.int (ro t i : Nat)), x6, some (.int (i : Nat)), x8, some (.int (dW t i : Nat)), some (.int (uW t i : Nat)), some (.int (i : Nat)), x12, x13, x14, x15, x16, x17, x18, x19, x20, x21, x22]) (p := hereP t i) (n := t.length) (s := i) (Nat.lt_of_le_of_lt (Nat.sub_le _ _) (Nat.lt_of_le_of_lt X.len (by decide))) h ?_ ?_ ?_, here_eq h]
  · rfl
  · intro s hs
    by_cases h1 : s < t.length
    · by_cases h2 : i ≤ s
      · have h3 : i < t.length := by omega
        simp [len_s X.lim, h1, h2, h3, ix_s X.lim h3, ix_s X.lim h1, kind_ok, at_get h1, at_get h3, ne_s okS_kd okB, eq_s okS_kd okS_kd, hereP, gap, sB]
        try rfl
      · have h2' : ¬ (i : Int) ≤ s := by omega
        simp [len_s X.lim, h1, h2', h2, hereP]
    · have h1' : ¬ (s : Int) < t.length := by omega
      simp [len_s X.lim, h1', h1]
  · intro s hs
    simp
  · rfl
theorem ngk (X : TX t) {r : Rho} {k : Nat} (hk : k < t.length) (h2 : r[2]? = some (some (.str t))) (h6 : 6 < r.length) : (fB (m2 neD (fCall [none] m__law_kind (fCons (m2 ixD (fVar 2) (fVar 6)) (fNil))) (fC (.str [115, 112, 97, 99, 101])))) (r.set 6 (some (jN k))) = .ok (!gap t k) (r.set 6 (some (jN k))) := by
  have e2 : (r.set 6 (some (jN k)))[2]? = some (some (.str t)) := by rw [List.getElem?_set_ne (by decide)]; exact h2
  have e6 : (r.set 6 (some (jN k)))[6]? = some (some (.int (k : Nat))) := by rw [List.getElem?_set_self h6]; rfl
  simp [e2, e6, ix_s X.lim hk, kind_ok, at_get hk, ne_s okS_kd okB, gap, sB]
  try rfl
theorem g8 (X : TX t) {r : Rho} {a : Nat} (h2 : r[2]? = some (some (.str t))) (h6 : 6 < r.length) (hi : fItA rg2D (fCons (fVar 11) (fCons (fn1 lenN (fVar 2)) (fNil))) r = .ok ((List.range' a (t.length - a)).map jN) r) (ha : a ≤ t.length) : fLc .S [6] (fItA rg2D (fCons (fVar 11) (fCons (fn1 lenN (fVar 2)) (fNil)))) (bNm 6) (fB (m2 neD (fCall [none] m__law_kind (fCons (m2 ixD (fVar 2) (fVar 6)) (fNil))) (fC (.str [115, 112, 97, 99, 101])))) (fVar 6) r = .ok (.lst (((List.range' a (t.length - a)).filter fun k => !gap t k).map jN)) r :=
  fLc_of hi (fun k hk => ngk X (by have := List.mem_range'_1.mp hk; omega) h2 h6) (fun k _ _ => fVar_ok (List.getElem?_set_self h6)) (ir'2 X) (fun _ _ _ h => by cases h)
theorem q8 (h : i ≤ t.length) (X : TX t) : rg2D [.int (nx1 t i : Nat), .int (t.length : Nat)] = some ((List.range' (nx1 t i) (t.length - nx1 t i)).map jN) := rg2j (t4 X) (Nat.le_trans (nx1_le h) (t4 X))
theorem q8' (X : TX t) {l : List D} (h : rg2D [.int (nx1 t i : Nat), .int (t.length : Nat)] = some l) : fItA rg2D (fCons (fVar 11) (fCons (fn1 lenN (fVar 2)) (fNil))) [x0, x1, some (.str t), some (.lst ((rws t).map .str)), some (.lst (iN (stl t))), some (.int (ro t i : Nat)), x6, some (.int (i : Nat)), x8, some (.int (dW t i : Nat)), some (.int (uW t i : Nat)), some (.int (nx1 t i : Nat)), x12, x13, x14, x15, x16, x17, x18, x19, x20, x21, x22] = .ok l [x0, x1, some (.str t), some (.lst ((rws t).map .str)), some (.lst (iN (stl t))), some (.int (ro t i : Nat)), x6, some (.int (i : Nat)), x8, some (.int (dW t i : Nat)), some (.int (uW t i : Nat)), some (.int (nx1 t i : Nat)), x12, x13, x14, x15, x16, x17, x18, x19, x20, x21, x22] := fItA_ok (x := [.int (nx1 t i : Nat), .int (t.length : Nat)]) (by simp [len_s X.lim]) h
def rdy (t : List Nat) (i : Nat) : List Nat := ((List.range' (nx1 t i) (t.length - nx1 t i)).filter fun k => !gap t k) ++ [t.length]
theorem rdy_hd (h : i ≤ t.length) : ∃ l, rdy t i = nx2 t i :: l := by
  obtain ⟨l, e⟩ := ready_head (gap t) (t.length - nx1 t i) (nx1 t i)
  have := nx1_le h
  rw [show nx1 t i + (t.length - nx1 t i) = t.length by omega] at e
  exact ⟨l, e⟩
theorem f8 (X : TX t) {r : Rho} {l : List Nat} (hl : l.length ≤ 100) (e : fLc .S [6] (fItA rg2D (fCons (fVar 11) (fCons (fn1 lenN (fVar 2)) (fNil)))) (bNm 6) (fB (m2 neD (fCall [none] m__law_kind (fCons (m2 ixD (fVar 2) (fVar 6)) (fNil))) (fC (.str [115, 112, 97, 99, 101])))) (fVar 6) r = .ok (.lst (l.map jN)) r) (h2 : r[2]? = some (some (.str t))) : st8 r = .nx (r.set 12 (some (.lst ((l ++ [t.length]).map jN)))) := by
  unfold st8
  rw [sSet_ok (m2_ok e (y := .lst [jN t.length]) (r2 := r) (z := .lst ((l ++ [t.length]).map jN)) (by simp [h2, len_s X.lim, jN]) ?_)]
  show (if (lim _ && fitK .S _) = true then _ else _) = _
  rw [lim_of (by simp; omega)]
  simp [fitK]
theorem s8 (h : i ≤ t.length) (X : TX t) : st8 [x0, x1, some (.str t), some (.lst ((rws t).map .str)), some (.lst (iN (stl t))), some (.int (ro t i : Nat)), x6, some (.int (i : Nat)), x8, some (.int (dW t i : Nat)), some (.int (uW t i : Nat)), some (.int (nx1 t i : Nat)), x12, x13, x14, x15, x16, x17, x18, x19, x20, x21, x22] = .nx [x0, x1, some (.str t), some (.lst ((rws t).map .str)), some (.lst (iN (stl t))), some (.int (ro t i : Nat)), x6, some (.int (i : Nat)), x8, some (.int (dW t i : Nat)), some (.int (uW t i : Nat)), some (.int (nx1 t i : Nat)), some (.lst ((rdy t i).map jN)), x13, x14, x15, x16, x17, x18, x19, x20, x21, x22] := by
  have hx := X.len
  have hf := List.length_filter_le (fun k => !gap t k) (List.range' (nx1 t i) (t.length - nx1 t i))
  rw [List.length_range'] at hf
  exact f8 X (l := (List.range' (nx1 t i) (t.length - nx1 t i)).filter fun k => !gap t k) (by omega) (g8 X rfl (by simp) (q8' X (q8 h X)) (nx1_le h)) rfl
theorem s9 (h : i ≤ t.length) (X : TX t) : st9 [x0, x1, some (.str t), some (.lst ((rws t).map .str)), some (.lst (iN (stl t))), some (.int (ro t i : Nat)), x6, some (.int (i : Nat)), x8, some (.int (dW t i : Nat)), some (.int (uW t i : Nat)), some (.int (nx1 t i : Nat)), some (.lst ((rdy t i).map jN)), x13, x14, x15, x16, x17, x18, x19, x20, x21, x22] = .nx [x0, x1, some (.str t), some (.lst ((rws t).map .str)), some (.lst (iN (stl t))), some (.int (ro t i : Nat)), x6, some (.int (i : Nat)), x8, some (.int (dW t i : Nat)), some (.int (uW t i : Nat)), some (.int (nx1 t i : Nat)), some (.lst ((rdy t i).map jN)), x13, x14, x15, x16, x17, x18, x19, x20, x21, x22] := by
  obtain ⟨l, e⟩ := rdy_hd h
  have h0 : ixD (.lst ((rdy t i).map jN)) (.int 0) = some (.int (nx2 t i : Nat)) := by rw [e]; exact ix_l (i := 0) (by simp)
  unfold st9
  simp [next_ok h X, h0]
theorem g10 (h : i ≤ t.length) (X : TX t) {r : Rho} (h2 : r[2]? = some (some (.str t))) (h6 : 6 < r.length) (hi : fItA rg1D (fCons (fVar 7) (fNil)) r = .ok ((List.range i).map jN) r) : fLc .S [6] (fItA rg1D (fCons (fVar 7) (fNil))) (bNm 6) (fB (m2 neD (fCall [none] m__law_kind (fCons (m2 ixD (fVar 2) (fVar 6)) (fNil))) (fC (.str [115, 112, 97, 99, 101])))) (fVar 6) r = .ok (.lst ((full t i).map jN)) r :=
  fLc_of hi (fun k hk => ngk X (by have := List.mem_range.mp hk; omega) h2 h6) (fun k _ _ => fVar_ok (List.getElem?_set_self h6)) (irr0 h X) (fun _ _ _ h => by cases h)
theorem q10 (h : i ≤ t.length) (X : TX t) : rg1D [.int (i : Nat)] = some ((List.range i).map jN) := rg1j (i4 h X)
theorem q10' {r : Rho} {l : List D} (h7 : r[7]? = some (some (.int (i : Nat)))) (h : rg1D [.int (i : Nat)] = some l) : fItA rg1D (fCons (fVar 7) (fNil)) r = .ok l r := fItA_ok (x := [.int (i : Nat)]) (by simp [h7]) h
theorem s10 (h : i ≤ t.length) (X : TX t) : st10 [x0, x1, some (.str t), some (.lst ((rws t).map .str)), some (.lst (iN (stl t))), some (.int (ro t i : Nat)), x6, some (.int (i : Nat)), x8, some (.int (dW t i : Nat)), some (.int (uW t i : Nat)), some (.int (nx1 t i : Nat)), some (.lst ((rdy t i).map jN)), x13, x14, x15, x16, x17, x18, x19, x20, x21, x22] = .nx [x0, x1, some (.str t), some (.lst ((rws t).map .str)), some (.lst (iN (stl t))), some (.int (ro t i : Nat)), x6, some (.int (i : Nat)), x8, some (.int (dW t i : Nat)), some (.int (uW t i : Nat)), some (.int (nx1 t i : Nat)), some (.lst ((rdy t i).map jN)), some (.lst ((full t i).map jN)), x14, x15, x16, x17, x18, x19, x20, x21, x22] := by
  unfold st10
  rw [sSet_ok (g10 h X rfl (by simp) (q10' rfl (q10 h X)))]
  rfl
def bk (t : List Nat) (i : Nat) : List Nat := (full t i).filter fun k => decide (lw2 t i ≤ k)
theorem full_cases (t : List Nat) (i : Nat) : (lw1 t i = 0 ∧ full t i = []) ∨ (0 < lw1 t i ∧ ∃ l, full t i = l ++ [lw1 t i - 1] ∧ gap t (lw1 t i - 1) = false) := full_last (gap t) i
theorem lw2_eq {q : Nat} (h : lw1 t i = q + 1) : lw2 t i = dn (fun s => decide (kd (at' t s) = kd (at' t q))) (q + 1) := by
  unfold lw2
  rw [if_pos (by omega), h]
  rfl
theorem bk_head (h0 : 0 < lw1 t i) : ∃ l, bk t i = lw2 t i :: l := by
  obtain ⟨q, hq⟩ : ∃ q, lw1 t i = q + 1 := ⟨lw1 t i - 1, by omega⟩
  have e := lw2_eq hq
  have hle := lw1_le t i
  have hg : gap t q = false := by
    rcases full_cases t i with ⟨h, _⟩ | ⟨_, l, _, h⟩
    · omega
    · rw [hq] at h; exact h
  have h1 : lw2 t i ≤ q := by
    rw [e]
    exact (dn_iff (fun s => decide (kd (at' t s) = kd (at' t q))) (q + 1) q (by omega)).mp fun s a b => by
      have : s = q := by omega
      subst this; simp
  have h2 : kd (at' t (lw2 t i)) = kd (at' t q) := by
    have := (dn_iff (fun s => decide (kd (at' t s) = kd (at' t q))) (q + 1) (lw2 t i) (by omega)).mpr (by rw [e]; exact Nat.le_refl _) (lw2 t i) (Nat.le_refl _) (by omega)
    simpa using this
  unfold bk full
  rw [List.filter_filter]
  exact filter_head (by omega) (by
    have : gap t (lw2 t i) = gap t q := by unfold gap; rw [h2]
    simp [this, hg]) (fun k hk => by simp; intro; omega)
theorem c11 (X : TX t) {r : Rho} {k q : Nat} {fl : List D} (hk : k ≤ q + 1) (hq : q < t.length) (h2 : r[2]? = some (some (.str t))) (h6 : r[6]? = some (some (.int (k : Nat)))) (h8 : 8 < r.length) (h13 : r[13]? = some (some (.lst fl))) (hm : ixD (.lst fl) (.int (-1)) = some (.int (q : Nat))) : fB (m2 eqD (fLc .S [8] (fIt strO (fSl .S (fVar 2) (fPart (fVar 6)) (fPart (m2 (addD .S) (m2 ixD (fVar 13) (fn1 negD (fC (.int 1)))) (fC (.int 1)))))) (bNm 8) (fB (m2 neD (fCall [none] m__law_kind (fCons (fVar 8) (fNil))) (fCall [none] m__law_kind (fCons (m2 ixD (fVar 2) (m2 ixD (fVar 13) (fn1 negD (fC (.int 1))))) (fNil))))) (fVar 8)) (fLst .S (fNil))) r = .ok (decide (dn (fun s => decide (kd (at' t s) = kd (at' t q))) (q + 1) ≤ k)) r := by
  have hm1 : -(1 : Int) = -1 := rfl
  have hc : cutL t (some (k : Int)) (some ((q : Int) + 1)) = sl t k (q + 1) := by
    rw [show ((q : Int) + 1) = ((q + 1 : Nat) : Int) by omega, cutL_nat (by omega)]; rfl
  have g : ∀ (x : Option D) (j : Nat), j ≠ 8 → (r.set 8 x)[j]? = r[j]? := fun x j hj => List.getElem?_set_ne (fun h => hj h.symm)
  have e := fLc_of (k := .S) (v := 8) (f := fIt strO (fSl .S (fVar 2) (fPart (fVar 6)) (fPart (m2 (addD .S) (m2 ixD (fVar 13) (fn1 negD (fC (.int 1)))) (fC (.int 1)))))) (t := (fB (m2 neD (fCall [none] m__law_kind (fCons (fVar 8) (fNil))) (fCall [none] m__law_kind (fCons (m2 ixD (fVar 2) (m2 ixD (fVar 13) (fn1 negD (fC (.int 1))))) (fNil)))))) (e := fVar 8) (r := r) (g := fun c => D.str [c]) (l := sl t k (q + 1)) (pt := fun c => !decide (kd c = kd (at' t q))) (pe := fun c => D.str [c])
    (by simp [h2, h6, h13, hm, sl_s X.lim, hc]) (fun c _ => by simp [h8, g, h2, h13, hm, ix_s X.lim hq, at_get hq, kind_ok, ne_s okS_kd okS_kd]) (fun c _ _ => fVar_ok (List.getElem?_set_self h8)) (sl_lim X k (q + 1)) (fun _ _ _ h => by cases h)
  have hq' := eq_nilS (l := (sl t k (q + 1)).filter fun c => !decide (kd c = kd (at' t q))) (fun c hc => sl_ok X k (q + 1) c (List.mem_filter.mp hc).1)
  have hb : ((sl t k (q + 1)).filter fun c => !decide (kd c = kd (at' t q))).isEmpty = decide (dn (fun s => decide (kd (at' t s) = kd (at' t q))) (q + 1) ≤ k) := by
    rw [filter_empty (p := fun c => decide (kd c = kd (at' t q))), Bool.eq_iff_iff, decide_eq_true_eq]
    exact (slice_all (p := fun c => decide (kd c = kd (at' t q))) (by omega)).trans (dn_iff (fun s => decide (kd (at' t s) = kd (at' t q))) (q + 1) k hk)
  rw [hb] at hq'
  simp only [fB_k, m2_k, e, kM2_ok, fLst_k, fNil_ok, kL_ok, lst0, lO_some, kM2b_ok, hq', kFB_ok]
theorem last_ix (l : List Nat) (q : Nat) : ixD (.lst ((l ++ [q]).map jN)) (.int (-1)) = some (.int (q : Nat)) := by
  show atI _ _ = _
  rw [List.map_append]
  exact atI_m1
theorem full_len (h : i ≤ t.length) (X : TX t) : (full t i).length ≤ 100000 := Nat.le_trans (List.length_filter_le _ _) (irr0 h X)
theorem s11 (h : i ≤ t.length) (X : TX t) : st11 [x0, x1, some (.str t), some (.lst ((rws t).map .str)), some (.lst (iN (stl t))), some (.int (ro t i : Nat)), x6, some (.int (i : Nat)), x8, some (.int (dW t i : Nat)), some (.int (uW t i : Nat)), some (.int (nx1 t i : Nat)), some (.lst ((rdy t i).map jN)), some (.lst ((full t i).map jN)), x14, x15, x16, x17, x18, x19, x20, x21, x22] = .nx [x0, x1, some (.str t), some (.lst ((rws t).map .str)), some (.lst (iN (stl t))), some (.int (ro t i : Nat)), x6, some (.int (i : Nat)), x8, some (.int (dW t i : Nat)), some (.int (uW t i : Nat)), some (.int (nx1 t i : Nat)), some (.lst ((rdy t i).map jN)), some (.lst ((full t i).map jN)), some (.lst ((bk t i).map jN)), x15, x16, x17, x18, x19, x20, x21, x22] := by
  have hi : fIt lstO (fVar 13) [x0, x1, some (.str t), some (.lst ((rws t).map .str)), some (.lst (iN (stl t))), some (.int (ro t i : Nat)), x6, some (.int (i : Nat)), x8, some (.int (dW t i : Nat)), some (.int (uW t i : Nat)), some (.int (nx1 t i : Nat)), some (.lst ((rdy t i).map jN)), some (.lst ((full t i).map jN)), x14, x15, x16, x17, x18, x19, x20, x21, x22] = .ok ((full t i).map jN) [x0, x1, some (.str t), some (.lst ((rws t).map .str)), some (.lst (iN (stl t))), some (.int (ro t i : Nat)), x6, some (.int (i : Nat)), x8, some (.int (dW t i : Nat)), some (.int (uW t i : Nat)), some (.int (nx1 t i : Nat)), some (.lst ((rdy t i).map jN)), some (.lst ((full t i).map jN)), x14, x15, x16, x17, x18, x19, x20, x21, x22] := by simp
  unfold st11
  refine sSet_ok (r' := [x0, x1, some (.str t), some (.lst ((rws t).map .str)), some (.lst (iN (stl t))), some (.int (ro t i : Nat)), x6, some (.int (i : Nat)), x8, some (.int (dW t i : Nat)), some (.int (uW t i : Nat)), some (.int (nx1 t i : Nat)), some (.lst ((rdy t i).map jN)), some (.lst ((full t i).map jN)), x14, x15, x16, x17, x18, x19, x20, x21, x22]) (d := .lst ((bk t i).map jN)) ?_
  refine fLc_of hi ?_ (fun k _ _ => by simp) (full_len h X) (fun _ _ _ h => by cases h)
  intro k hk
  rcases full_cases t i with ⟨_, e⟩ | ⟨h0, l, e, hg⟩
  · rw [e] at hk; cases hk
  · obtain ⟨q, hq⟩ : ∃ q, lw1 t i = q + 1 := ⟨lw1 t i - 1, by omega⟩
    have hle := lw1_le t i
    have hm := last_ix l q
    rw [hq] at e
    have e' : full t i = l ++ [q] := e
    rw [← e'] at hm
    have hkq : k ≤ q + 1 := by
      have h3 : (!gap t k) = true := (List.mem_filter.mp hk).2
      have h5 := (List.mem_filter.mp hk).1
      rw [List.mem_range] at h5
      by_cases h4 : k ≤ q
      · omega
      · have := (dn_iff (gap t) i (q + 1) (by omega)).mpr (by have : dn (gap t) i = q + 1 := hq
                                                              omega) k (by omega) h5
        rw [this] at h3; cases h3
    rw [lw2_eq hq]
    exact c11 X hkq (by omega) rfl rfl (by simp) rfl hm
theorem s12 (h : i ≤ t.length) (X : TX t) : st12 [x0, x1, some (.str t), some (.lst ((rws t).map .str)), some (.lst (iN (stl t))), some (.int (ro t i : Nat)), x6, some (.int (i : Nat)), x8, some (.int (dW t i : Nat)), some (.int (uW t i : Nat)), some (.int (nx1 t i : Nat)), some (.lst ((rdy t i).map jN)), some (.lst ((full t i).map jN)), some (.lst ((bk t i).map jN)), x15, x16, x17, x18, x19, x20, x21, x22] = .nx [x0, x1, some (.str t), some (.lst ((rws t).map .str)), some (.lst (iN (stl t))), some (.int (ro t i : Nat)), x6, some (.int (i : Nat)), x8, some (.int (dW t i : Nat)), some (.int (uW t i : Nat)), some (.int (nx1 t i : Nat)), some (.lst ((rdy t i).map jN)), some (.lst ((full t i).map jN)), some (.lst ((bk t i).map jN)), x15, x16, x17, x18, x19, x20, x21, x22] := by
  unfold st12
  rcases full_cases t i with ⟨h0, e⟩ | ⟨h0, _⟩
  · have e1 : bk t i = [] := by unfold bk; rw [e]; rfl
    have e2 : lw2 t i = 0 := by unfold lw2; rw [if_neg (by omega)]
    simp [last_ok h X, e1, e2, ne_nil]
  · obtain ⟨l, e⟩ := bk_head h0
    have h0 : ixD (.lst ((bk t i).map jN)) (.int 0) = some (.int (lw2 t i : Nat)) := by rw [e]; exact ix_l (i := 0) (by simp)
    have h1 : neD (.lst ((bk t i).map jN)) (.lst []) = some (.bl true) := by
      rw [ne_nil (by intro d hd; obtain ⟨c, _, rfl⟩ := List.mem_map.mp hd; simp [jN]), e]; rfl
    simp [last_ok h X, h0, h1]
theorem s13 : st13 [x0, x1, some (.str t), some (.lst ((rws t).map .str)), some (.lst (iN (stl t))), some (.int (ro t i : Nat)), x6, some (.int (i : Nat)), x8, some (.int (dW t i : Nat)), some (.int (uW t i : Nat)), some (.int (nx1 t i : Nat)), some (.lst ((rdy t i).map jN)), some (.lst ((full t i).map jN)), some (.lst ((bk t i).map jN)), x15, x16, x17, x18, x19, x20, x21, x22] = .nx [x0, x1, some (.str t), some (.lst ((rws t).map .str)), some (.lst (iN (stl t))), some (.int (ro t i : Nat)), x6, some (.int (i : Nat)), x8, some (.int (dW t i : Nat)), some (.int (uW t i : Nat)), some (.int (nx1 t i : Nat)), some (.lst ((rdy t i).map jN)), some (.lst ((full t i).map jN)), some (.lst ((bk t i).map jN)), some (.int (ro t i : Nat)), some (.int (ro t i : Nat)), x17, x18, x19, x20, x21, x22] := by
  unfold st13
  simp
def lowP (t : List Nat) (i s : Nat) : Bool := !bare (rk t (ro t i)) && !bare (rk t s)
theorem low_eq : dn (lowP t i) (ro t i) = plo t i := by
  unfold plo
  by_cases h : bare (rk t (ro t i)) = true
  · rw [if_pos h]; exact dn_no fun s => by simp [lowP, h]
  · rw [if_neg h]; exact dn_congr _ fun s _ => by simp [lowP, h]
theorem high_eq : up (fun s => lowP t i (s + 1)) (cn t - ro t i) (ro t i) = phi t i := by
  unfold phi
  by_cases h : bare (rk t (ro t i)) = true
  · rw [if_pos h]; exact up_no (by simp [lowP, h])
  · rw [if_neg h]; exact up_congr _ _ fun s _ => by simp [lowP, h]
theorem r6 (X : TX t) : ro t i < 1000000 := Nat.lt_of_lt_of_le (ro_lt t i) (Nat.le_trans (rl X) (by decide))
theorem s14 (X : TX t) : st14 [x0, x1, some (.str t), some (.lst ((rws t).map .str)), some (.lst (iN (stl t))), some (.int (ro t i : Nat)), x6, some (.int (i : Nat)), x8, some (.int (dW t i : Nat)), some (.int (uW t i : Nat)), some (.int (nx1 t i : Nat)), some (.lst ((rdy t i).map jN)), some (.lst ((full t i).map jN)), some (.lst ((bk t i).map jN)), some (.int (ro t i : Nat)), some (.int (ro t i : Nat)), x17, x18, x19, x20, x21, x22] = .nx [x0, x1, some (.str t), some (.lst ((rws t).map .str)), some (.lst (iN (stl t))), some (.int (ro t i : Nat)), x6, some (.int (i : Nat)), x8, some (.int (dW t i : Nat)), some (.int (uW t i : Nat)), some (.int (nx1 t i : Nat)), some (.lst ((rdy t i).map jN)), some (.lst ((full t i).map jN)), some (.lst ((bk t i).map jN)), some (.int (plo t i : Nat)), some (.int (ro t i : Nat)), x17, x18, x19, x20, x21, x22] := by
  have hr := ro_lt t i
  unfold st14
  rw [while_dn' (i := 15) (r := [x0, x1, some (.str t), some (.lst ((rws t).map .str)), some (.lst (iN (stl t))), some (.int (ro t i : Nat)), x6, some (.int (i : Nat)), x8, some (.int (dW t i : Nat)), some (.int (uW t i : Nat)), some (.int (nx1 t i : Nat)), some (.lst ((rdy t i).map jN)), some (.lst ((full t i).map jN)), some (.lst ((bk t i).map jN)), some (.int (ro t i : Nat)), some (.int (ro t i : Nat)), x17, x18, x19, x20, x21, x22]) (p := lowP t i) (n := cn t) (s := ro t i) (r6 X) (ro_le t i) ?_ ?_ ?_, low_eq]
  · rfl
  · intro s hs
    have XR := rk_TX X hr
    cases s with
    | zero =>
      simp [ix_rwL hr, bare_ok XR]
    | succ s =>
      have h1 : s < (rws t).length := by rw [rws_len]; omega
      simp [ix_rwL hr, bare_ok XR, ix_rwL h1, bare_ok (rk_TX X h1), lowP]
  · intro s hs
    simp
  · rfl
theorem s15 (X : TX t) : st15 [x0, x1, some (.str t), some (.lst ((rws t).map .str)), some (.lst (iN (stl t))), some (.int (ro t i : Nat)), x6, some (.int (i : Nat)), x8, some (.int (dW t i : Nat)), some (.int (uW t i : Nat)), some (.int (nx1 t i : Nat)), some (.lst ((rdy t i).map jN)), some (.lst ((full t i).map jN)), some (.lst ((bk t i).map jN)), some (.int (plo t i : Nat)), some (.int (ro t i : Nat)), x17, x18, x19, x20, x21, x22] = .nx [x0, x1, some (.str t), some (.lst ((rws t).map .str)), some (.lst (iN (stl t))), some (.int (ro t i : Nat)), x6, some (.int (i : Nat)), x8, some (.int (dW t i : Nat)), some (.int (uW t i : Nat)), some (.int (nx1 t i : Nat)), some (.lst ((rdy t i).map jN)), some (.lst ((full t i).map jN)), some (.lst ((bk t i).map jN)), some (.int (plo t i : Nat)), some (.int (phi t i : Nat)), x17, x18, x19, x20, x21, x22] := by
  have hr := ro_lt t i
  have e : ((rws t).length : Int) - 1 = (cn t : Nat) := by rw [rws_len]; omega
  unfold st15
  rw [while_up' (i := 16) (r := [x0, x1, some (.str t), some (.lst ((rws t).map .str)), some (.lst (iN (stl t))), some (.int (ro t i : Nat)), x6, some (.int (i : Nat)), x8, some (.int (dW t i : Nat)), some (.int (uW t i : Nat)), some (.int (nx1 t i : Nat)), some (.lst ((rdy t i).map jN)), some (.lst ((full t i).map jN)), some (.lst ((bk t i).map jN)), some (.int (plo t i : Nat)), some (.int (ro t i : Nat)), x17, x18, x19, x20, x21, x22]) (p := fun s => lowP t i (s + 1)) (n := cn t) (s := ro t i) (Nat.lt_of_le_of_lt (Nat.sub_le _ _) (Nat.lt_of_le_of_lt (cn_le t) (Nat.lt_of_le_of_lt X.len (by decide)))) (ro_le t i) ?_ ?_ ?_, high_eq]
  · rfl
  · intro s hs
    have XR := rk_TX X hr
    by_cases h1 : s < cn t
    · have h2 : s + 1 < (rws t).length := by rw [rws_len]; omega
      have i2 := ix_rwL h2
      rw [Int.natCast_succ] at i2
      simp [ix_rwL hr, bare_ok XR, e, h1, i2, bare_ok (rk_TX X h2), lowP]
    · simp [ix_rwL hr, bare_ok XR, e, h1]
  · intro s hs
    simp
  · rfl
theorem s16 (h : i ≤ t.length) (X : TX t) : st16 [x0, x1, some (.str t), some (.lst ((rws t).map .str)), some (.lst (iN (stl t))), some (.int (ro t i : Nat)), x6, some (.int (i : Nat)), x8, some (.int (dW t i : Nat)), some (.int (uW t i : Nat)), some (.int (nx1 t i : Nat)), some (.lst ((rdy t i).map jN)), some (.lst ((full t i).map jN)), some (.lst ((bk t i).map jN)), some (.int (plo t i : Nat)), some (.int (phi t i : Nat)), x17, x18, x19, x20, x21, x22] = .nx [x0, x1, some (.str t), some (.lst ((rws t).map .str)), some (.lst (iN (stl t))), some (.int (ro t i : Nat)), x6, some (.int (i : Nat)), x8, some (.int (dW t i : Nat)), some (.int (uW t i : Nat)), some (.int (nx1 t i : Nat)), some (.lst ((rdy t i).map jN)), some (.lst ((full t i).map jN)), some (.lst ((bk t i).map jN)), some (.int (plo t i : Nat)), some (.int (phi t i : Nat)), x17, x18, x19, x20, x21, x22] := by
  unfold st16
  simp [par_ok h X, ne_self (int2 _ _)]
theorem s17 (a b c : Int) : ∃ (a' b' c' d w : Int), 0 ≤ w ∧ st17 [x0, some (dc a b c), some (.str t), some (.lst ((rws t).map .str)), some (.lst (iN (stl t))), some (.int (ro t i : Nat)), x6, some (.int (i : Nat)), x8, some (.int (dW t i : Nat)), some (.int (uW t i : Nat)), some (.int (nx1 t i : Nat)), some (.lst ((rdy t i).map jN)), some (.lst ((full t i).map jN)), some (.lst ((bk t i).map jN)), some (.int (plo t i : Nat)), some (.int (phi t i : Nat)), x17, x18, x19, x20, x21, x22] = .nx [x0, some (dc a' b' c'), some (.str t), some (.lst ((rws t).map .str)), some (.lst (iN (stl t))), some (.int (ro t i : Nat)), x6, some (.int (i : Nat)), x8, some (.int (dW t i : Nat)), some (.int (uW t i : Nat)), some (.int (nx1 t i : Nat)), some (.lst ((rdy t i).map jN)), some (.lst ((full t i).map jN)), some (.lst ((bk t i).map jN)), some (.int (plo t i : Nat)), some (.int (phi t i : Nat)), some (.int d), some (.int w), x19, x20, x21, x22] := by
  obtain ⟨v, a1, b1, c1, h1, h2, e1⟩ := roll_call (i := 1) (g := fCons (fC (.int 7)) fNil) (a := a) (b := b) (c := c) (r := [x0, some (dc a b c), some (.str t), some (.lst ((rws t).map .str)), some (.lst (iN (stl t))), some (.int (ro t i : Nat)), x6, some (.int (i : Nat)), x8, some (.int (dW t i : Nat)), some (.int (uW t i : Nat)), some (.int (nx1 t i : Nat)), some (.lst ((rdy t i).map jN)), some (.lst ((full t i).map jN)), some (.lst ((bk t i).map jN)), some (.int (plo t i : Nat)), some (.int (phi t i : Nat)), x17, x18, x19, x20, x21, x22]) (many := 7) (by decide) (by decide) rfl (by simp)
  obtain ⟨w, a', b', c', h3, h4, e2⟩ := roll_call (i := 1) (g := fCons (fC (.int 8)) fNil) (a := a1) (b := b1) (c := c1) (r := [x0, some (dc a1 b1 c1), some (.str t), some (.lst ((rws t).map .str)), some (.lst (iN (stl t))), some (.int (ro t i : Nat)), x6, some (.int (i : Nat)), x8, some (.int (dW t i : Nat)), some (.int (uW t i : Nat)), some (.int (nx1 t i : Nat)), some (.lst ((rdy t i).map jN)), some (.lst ((full t i).map jN)), some (.lst ((bk t i).map jN)), some (.int (plo t i : Nat)), some (.int (phi t i : Nat)), x17, x18, x19, x20, x21, x22]) (many := 8) (by decide) (by decide) rfl (by simp)
  refine ⟨a', b', c', v - 3, w, h3, ?_⟩
  unfold st17
  exact sPar2_ok (fCons_ok (m2_ok e1 fC_ok sub_i) (fCons_ok e2 fNil_ok))
def gl (t : List Nat) (i : Nat) (d : Int) : Nat := (min (((rws t).length : Int) - 1) (max 0 ((ro t i : Nat) + d))).toNat
theorem gl_eq (t : List Nat) (i : Nat) (d : Int) : min (((rws t).length : Int) - 1) (max 0 (((ro t i : Nat) : Int) + d)) = (gl t i d : Nat) := by
  have := ro_lt t i
  unfold gl
  omega
theorem gl_lt (t : List Nat) (i : Nat) (d : Int) : gl t i d < (rws t).length := by
  have := ro_lt t i
  unfold gl
  omega
theorem s18 (d w : Int) : st18 [x0, x1, some (.str t), some (.lst ((rws t).map .str)), some (.lst (iN (stl t))), some (.int (ro t i : Nat)), x6, some (.int (i : Nat)), x8, some (.int (dW t i : Nat)), some (.int (uW t i : Nat)), some (.int (nx1 t i : Nat)), some (.lst ((rdy t i).map jN)), some (.lst ((full t i).map jN)), some (.lst ((bk t i).map jN)), some (.int (plo t i : Nat)), some (.int (phi t i : Nat)), some (.int d), some (.int w), x19, x20, x21, x22] = .nx [x0, x1, some (.str t), some (.lst ((rws t).map .str)), some (.lst (iN (stl t))), some (.int (ro t i : Nat)), x6, some (.int (i : Nat)), x8, some (.int (dW t i : Nat)), some (.int (uW t i : Nat)), some (.int (nx1 t i : Nat)), some (.lst ((rdy t i).map jN)), some (.lst ((full t i).map jN)), some (.lst ((bk t i).map jN)), some (.int (plo t i : Nat)), some (.int (phi t i : Nat)), some (.int d), some (.int w), some (.int (gl t i d : Nat)), x20, x21, x22] := by
  have := gl_eq t i d
  unfold st18
  simp [this]
theorem s19 (h : i ≤ t.length) (X : TX t) (d w : Int) (hw : 0 ≤ w) : st19 [x0, x1, some (.str t), some (.lst ((rws t).map .str)), some (.lst (iN (stl t))), some (.int (ro t i : Nat)), x6, some (.int (i : Nat)), x8, some (.int (dW t i : Nat)), some (.int (uW t i : Nat)), some (.int (nx1 t i : Nat)), some (.lst ((rdy t i).map jN)), some (.lst ((full t i).map jN)), some (.lst ((bk t i).map jN)), some (.int (plo t i : Nat)), some (.int (phi t i : Nat)), some (.int d), some (.int w), some (.int (gl t i d : Nat)), x20, x21, x22] = .nx [x0, x1, some (.str t), some (.lst ((rws t).map .str)), some (.lst (iN (stl t))), some (.int (ro t i : Nat)), x6, some (.int (i : Nat)), x8, some (.int (dW t i : Nat)), some (.int (uW t i : Nat)), some (.int (nx1 t i : Nat)), some (.lst ((rdy t i).map jN)), some (.lst ((full t i).map jN)), some (.lst ((bk t i).map jN)), some (.int (plo t i : Nat)), some (.int (phi t i : Nat)), some (.int d), some (.int w), some (.int (gl t i d : Nat)), x20, x21, x22] := by
  have hg := gl_lt t i d
  have e1 := ud_ok (t := t) (i := i) (d := d) (c := w) h hw X
  rw [gl_eq, at_ok hg hw X] at e1
  unfold st19
  simp [e1, ix_stL hg, ix_rwL hg, len_s (rk_TX X hg).lim]
theorem loop_ok (h : i ≤ t.length) (X : TX t) (a b c : Int) : ∃ (a' b' c' d w : Int), b_loop [x0, some (dc a b c), some (.str t), some (.lst ((rws t).map .str)), some (.lst (iN (stl t))), x5, x6, some (.int (i : Nat)), x8, x9, x10, x11, x12, x13, x14, x15, x16, x17, x18, x19, x20, x21, x22] = .nx [x0, some (dc a' b' c'), some (.str t), some (.lst ((rws t).map .str)), some (.lst (iN (stl t))), some (.int (ro t i : Nat)), x6, some (.int (i : Nat)), x8, some (.int (dW t i : Nat)), some (.int (uW t i : Nat)), some (.int (nx1 t i : Nat)), some (.lst ((rdy t i).map jN)), some (.lst ((full t i).map jN)), some (.lst ((bk t i).map jN)), some (.int (plo t i : Nat)), some (.int (phi t i : Nat)), some (.int d), some (.int w), some (.int (gl t i d : Nat)), x20, x21, x22] := by
  obtain ⟨a', b', c', d, w, hw, e⟩ := s17 (t := t) (i := i) (x0 := x0) (x6 := x6) (x8 := x8) (x17 := x17) (x18 := x18) (x19 := x19) (x20 := x20) (x21 := x21) (x22 := x22) a b c
  refine ⟨a', b', c', d, w, ?_⟩
  unfold b_loop
  rw [sS_nx (s1 h X), sS_nx (s2 h X), sS_nx (s3 h X), sS_nx (s4 h X), sS_nx (s5 h X), sS_nx (s6 h X), sS_nx (s7 h X), sS_nx (s8 h X), sS_nx (s9 h X), sS_nx (s10 h X), sS_nx (s11 h X), sS_nx (s12 h X), sS_nx s13, sS_nx (s14 X), sS_nx (s15 X), sS_nx (s16 h X), sS_nx e, sS_nx (s18 d w)]
  exact s19 h X d w hw
end
end Law

set_option Elab.async false
set_option linter.all false
set_option maxRecDepth 100000
set_option maxHeartbeats 800000
namespace Law
open PySem L2 Mir
section
variable {t : List Nat} {i : Nat} {x0 x1 x2 x3 x4 x5 x6 x7 x8 x9 x10 x11 x12 x13 x14 x15 x16 x17 x18 x19 x20 x21 x22 : Option D}
theorem o1 (a b c : Int) : ∃ (t : List Nat) (a' b' c' : Int), TX t ∧ t.length < 30 ∧ ot1 [x0, some (dc a b c), x2, x3, x4, x5, x6, x7, x8, x9, x10, x11, x12, x13, x14, x15, x16, x17, x18, x19, x20, x21, x22] = .nx [x0, some (dc a' b' c'), some (.str t), x3, x4, x5, x6, x7, x8, x9, x10, x11, x12, x13, x14, x15, x16, x17, x18, x19, x20, x21, x22] := by
  obtain ⟨t, a', b', c', r2, e, h0, X, hl⟩ := text_ok a b c
  refine ⟨t, a', b', c', X, hl, ?_⟩
  unfold ot1
  refine sSet_ok (r' := [x0, some (dc a' b' c'), x2, x3, x4, x5, x6, x7, x8, x9, x10, x11, x12, x13, x14, x15, x16, x17, x18, x19, x20, x21, x22]) ?_
  unfold fCall
  rw [bnd_ok (a := [.non, .int 30]) (r' := [x0, some (dc a b c), x2, x3, x4, x5, x6, x7, x8, x9, x10, x11, x12, x13, x14, x15, x16, x17, x18, x19, x20, x21, x22]) (by rfl)]
  show (match m__law_text [dc a b c, .int 30] with | .stk => Out.stk | .ok d r2 => Out.ok d (backD [some 1, none] 0 r2 [x0, some (dc a b c), x2, x3, x4, x5, x6, x7, x8, x9, x10, x11, x12, x13, x14, x15, x16, x17, x18, x19, x20, x21, x22]) | .ex c r2 => Out.ex c (backD [some 1, none] 0 r2 [x0, some (dc a b c), x2, x3, x4, x5, x6, x7, x8, x9, x10, x11, x12, x13, x14, x15, x16, x17, x18, x19, x20, x21, x22])) = _
  rw [e]
  simp [backD, h0]
theorem o2 (X : TX t) : ot2 [x0, x1, some (.str t), x3, x4, x5, x6, x7, x8, x9, x10, x11, x12, x13, x14, x15, x16, x17, x18, x19, x20, x21, x22] = .nx [x0, x1, some (.str t), some (.lst ((rws t).map .str)), x4, x5, x6, x7, x8, x9, x10, x11, x12, x13, x14, x15, x16, x17, x18, x19, x20, x21, x22] := by
  unfold ot2
  simp [lrows_ok X]
theorem i3 {k : Nat} (X : TX t) : fn1 sumD (fLc .S [5] (fIt lstO (fSl .S (fVar 3) (fNo) (fPart (fVar 6)))) (bNm 5) (fYes) (m2 (addD .S) (fn1 lenN (fVar 5)) (fC (.int 1)))) [x0, x1, some (.str t), some (.lst ((rws t).map .str)), x4, x5, some (jN k), x7, x8, x9, x10, x11, x12, x13, x14, x15, x16, x17, x18, x19, x20, x21, x22] = .ok (jN (S (rws t) k)) [x0, x1, some (.str t), some (.lst ((rws t).map .str)), x4, x5, some (jN k), x7, x8, x9, x10, x11, x12, x13, x14, x15, x16, x17, x18, x19, x20, x21, x22] := by
  have hk : cutL ((rws t).map D.str) none (some (k : Int)) = ((rws t).take k).map D.str := by
    unfold cutL
    rw [HT.sIx_none, HT.sIx_nat]
    simp [List.map_take]
  have hi : fIt lstO (fSl .S (fVar 3) (fNo) (fPart (fVar 6))) [x0, x1, some (.str t), some (.lst ((rws t).map .str)), x4, x5, some (jN k), x7, x8, x9, x10, x11, x12, x13, x14, x15, x16, x17, x18, x19, x20, x21, x22] = .ok (((rws t).take k).map D.str) [x0, x1, some (.str t), some (.lst ((rws t).map .str)), x4, x5, some (jN k), x7, x8, x9, x10, x11, x12, x13, x14, x15, x16, x17, x18, x19, x20, x21, x22] := by simp [jN, hk]
  have hm : ∀ a ∈ (rws t).take k, lim a.length = true := fun a ha => lim_of (Nat.le_trans (rw_sub t a ((List.take_sublist _ _).subset ha)).1 (t4 X))
  have e := fLc_all (k := .S) (v := 5) (e := m2 (addD .S) (fn1 lenN (fVar 5)) (fC (.int 1))) (pe := fun (a : List Nat) => D.int ((a.length : Int) + 1)) hi (fun a ha => by simp [len_s (hm a ha)]) (by rw [List.length_take]; exact Nat.le_trans (Nat.min_le_right _ _) (rl5 X)) (fun _ _ h => by cases h)
  refine fn1_ok e ?_
  rw [sum_of (f := fun (a : List Nat) => (a.length : Int) + 1), S_sum]
  rfl
theorem q3o {r : Rho} {l : List D} (h3 : r[3]? = some (some (.lst ((rws t).map .str)))) (h : rg1D [.int ((rws t).length : Nat)] = some l) : fItA rg1D (fCons (fn1 lenN (fVar 3)) (fNil)) r = .ok l r := fItA_ok (x := [.int ((rws t).length : Nat)]) (by simp [h3]) h
theorem o3 (X : TX t) : ot3 [x0, x1, some (.str t), some (.lst ((rws t).map .str)), x4, x5, x6, x7, x8, x9, x10, x11, x12, x13, x14, x15, x16, x17, x18, x19, x20, x21, x22] = .nx [x0, x1, some (.str t), some (.lst ((rws t).map .str)), some (.lst (iN (stl t))), x5, x6, x7, x8, x9, x10, x11, x12, x13, x14, x15, x16, x17, x18, x19, x20, x21, x22] := by
  unfold ot3
  exact sSet_ok (fLc_all (g := jN) (l := List.range (rws t).length) (pe := fun k => jN (S (rws t) k)) (q3o rfl (q1 X)) (fun k _ => i3 X) (rlr X) (fun _ _ h => by cases h)) |>.trans (by simp [iN, stl, jN, Function.comp_def])
theorem okTT (X : TX t) : okD 60 (.lst ((rws t).map .str)) = true := okD_lst.mpr (by
  intro d hd
  obtain ⟨a, ha, rfl⟩ := List.mem_map.mp hd
  simp [okS_iff]
  exact fun c hc => X.ok c ((rw_sub t a ha).2 c hc))
theorem okIN (l : List Nat) : okD 60 (.lst (iN l)) = true := okD_lst.mpr (by
  intro d hd
  obtain ⟨a, ha, rfl⟩ := List.mem_map.mp hd
  simp)
theorem o4 (X : TX t) : ot4 [x0, x1, some (.str t), some (.lst ((rws t).map .str)), some (.lst (iN (stl t))), x5, x6, x7, x8, x9, x10, x11, x12, x13, x14, x15, x16, x17, x18, x19, x20, x21, x22] = .nx [x0, x1, some (.str t), some (.lst ((rws t).map .str)), some (.lst (iN (stl t))), x5, x6, x7, x8, x9, x10, x11, x12, x13, x14, x15, x16, x17, x18, x19, x20, x21, x22] := by
  unfold ot4
  simp [rows_ok X, starts_ok X, ne_self (okTT X), ne_self (okIN _)]
theorem q5 (X : TX t) : rg1D [.int (t.length : Nat)] = some ((List.range t.length).map jN) := rg1j (t4 X)
theorem q5' (X : TX t) {r : Rho} {l : List D} (h2 : r[2]? = some (some (.str t))) (h : rg1D [.int (t.length : Nat)] = some l) : fItA rg1D (fCons (fn1 lenN (fVar 2)) (fNil)) r = .ok l r := fItA_ok (x := [.int (t.length : Nat)]) (by simp [h2, len_s X.lim]) h
theorem rt5 (X : TX t) : (List.range t.length).length ≤ 100000 := by rw [List.length_range]; exact t4 X
theorem k5 (X : TX t) {r : Rho} (h2 : r[2]? = some (some (.str t))) (h7 : 7 < r.length) : fLc .S [7] (fItA rg1D (fCons (fn1 lenN (fVar 2)) (fNil))) (bNm 7) (fYes) (fCall [none, none] m_kind_at (fCons (fVar 2) (fCons (fVar 7) (fNil)))) r = .ok (.lst ((List.range t.length).map fun k => .str (kd (at' t k)))) r :=
  fLc_all (q5' X h2 (q5 X)) (fun k hk => by
    have hk' := List.mem_range.mp hk
    have e2 : (r.set 7 (some (jN k)))[2]? = some (some (.str t)) := by rw [List.getElem?_set_ne (by decide)]; exact h2
    have e7 : (r.set 7 (some (jN k)))[7]? = some (some (.int (k : Nat))) := by rw [List.getElem?_set_self h7]; rfl
    simp [e2, e7, kind_at_ok hk' X, at_get hk']) (rt5 X) (fun _ _ h => by cases h)
theorem k6 (X : TX t) {r : Rho} (h2 : r[2]? = some (some (.str t))) (h8 : 8 < r.length) : fLc .S [8] (fIt strO (fVar 2)) (bNm 8) (fYes) (fCall [none] m__law_kind (fCons (fVar 8) (fNil))) r = .ok (.lst (t.map fun c => .str (kd c))) r :=
  fLc_all (g := fun c => D.str [c]) (by simp [h2]) (fun c hc => by
    have e8 : (r.set 8 (some (D.str [c])))[8]? = some (some (.str [c])) := List.getElem?_set_self h8
    simp [e8, kind_ok]) (t4 X) (fun _ _ h => by cases h)
theorem kk_eq : (List.range t.length).map (fun k => D.str (kd (at' t k))) = t.map fun c => D.str (kd c) := by
  refine List.ext_getElem (by simp) fun j h1 h2 => ?_
  simp at h2
  simp [← at_get h2]
theorem o5 (X : TX t) : ot5 [x0, x1, some (.str t), some (.lst ((rws t).map .str)), some (.lst (iN (stl t))), x5, x6, x7, x8, x9, x10, x11, x12, x13, x14, x15, x16, x17, x18, x19, x20, x21, x22] = .nx [x0, x1, some (.str t), some (.lst ((rws t).map .str)), some (.lst (iN (stl t))), x5, x6, x7, x8, x9, x10, x11, x12, x13, x14, x15, x16, x17, x18, x19, x20, x21, x22] := by
  have e := m2_ok (h := neD) (k5 X (r := [x0, x1, some (.str t), some (.lst ((rws t).map .str)), some (.lst (iN (stl t))), x5, x6, x7, x8, x9, x10, x11, x12, x13, x14, x15, x16, x17, x18, x19, x20, x21, x22]) rfl (by simp)) (k6 X (r := [x0, x1, some (.str t), some (.lst ((rws t).map .str)), some (.lst (iN (stl t))), x5, x6, x7, x8, x9, x10, x11, x12, x13, x14, x15, x16, x17, x18, x19, x20, x21, x22]) rfl (by simp)) (ne_same (okD_lst.mpr (by
    intro d hd
    obtain ⟨a, ha, rfl⟩ := List.mem_map.mp hd
    simp [okS_kd])) (congrArg D.lst kk_eq))
  unfold ot5
  rw [sIf_ok (fB_ok e)]
  rfl
theorem q6' (X : TX t) {r : Rho} {l : List D} (h2 : r[2]? = some (some (.str t))) (h : rg1D [.int (t.length + 1 : Nat)] = some l) : fItA rg1D (fCons (m2 (addD .S) (fn1 lenN (fVar 2)) (fC (.int 1))) (fNil)) r = .ok l r := fItA_ok (x := [.int (t.length + 1 : Nat)]) (by simp [h2, len_s X.lim]) h
theorem q6 (X : TX t) : rg1D [.int (t.length + 1 : Nat)] = some ((List.range (t.length + 1)).map jN) := rg1j (t5 X)
def EI (z : D) (t : List Nat) (r : Rho) : Prop := ∃ (a b c : Int) (x5 x7 x9 x10 x11 x12 x13 x14 x15 x16 x17 x18 x19 : Option D), r = [some z, some (dc a b c), some (.str t), some (.lst ((rws t).map .str)), some (.lst (iN (stl t))), x5, none, x7, none, x9, x10, x11, x12, x13, x14, x15, x16, x17, x18, x19, none, none, none]
theorem o6 (X : TX t) (z : D) {r : Rho} (hr : EI z t r) : ∃ r', ot6 r = .nx r' ∧ EI z t r' := by
  have h2 : r[2]? = some (some (.str t)) := by obtain ⟨a, b, c, y5, y7, y9, y10, y11, y12, y13, y14, y15, y16, y17, y18, y19, rfl⟩ := hr; rfl
  unfold ot6
  rw [sFor_ok (q6' X h2 (q6 X))]
  obtain ⟨r', e, h⟩ := forL_inv (b := bNm 7) (body := b_loop) (fun _ r => EI z t r) ((List.range (t.length + 1)).map jN) 0 r hr (by
    intro j d r hj hr
    obtain ⟨a, b, c, y5, y7, y9, y10, y11, y12, y13, y14, y15, y16, y17, y18, y19, rfl⟩ := hr
    have hj' : d = jN j ∧ j < t.length + 1 := by
      rw [List.getElem?_map] at hj
      by_cases h : j < t.length + 1
      · rw [List.getElem?_range h] at hj; cases hj; exact ⟨rfl, h⟩
      · rw [List.getElem?_eq_none (by simp; omega)] at hj; cases hj
    obtain ⟨rfl, hj2⟩ := hj'
    obtain ⟨a', b', c', d, w, e⟩ := loop_ok (t := t) (i := j) (x0 := some z) (x5 := y5) (x6 := none) (x8 := none) (x9 := y9) (x10 := y10) (x11 := y11) (x12 := y12) (x13 := y13) (x14 := y14) (x15 := y15) (x16 := y16) (x17 := y17) (x18 := y18) (x19 := y19) (x20 := none) (x21 := none) (x22 := none) (by omega) X a b c
    exact ⟨_, _, rfl, e, ⟨a', b', c', _, _, _, _, _, _, _, _, _, _, _, _, _, rfl⟩⟩)
  exact ⟨r', e, h⟩
theorem o7 (X : TX t) (a b c : Int) : ∃ (a' b' c' : Int) (v : Nat) (w : Int), 0 ≤ w ∧ ot7 [x0, some (dc a b c), some (.str t), some (.lst ((rws t).map .str)), some (.lst (iN (stl t))), x5, x6, x7, x8, x9, x10, x11, x12, x13, x14, x15, x16, x17, x18, x19, x20, x21, x22] = .nx [x0, some (dc a' b' c'), some (.str t), some (.lst ((rws t).map .str)), some (.lst (iN (stl t))), some (.int (v : Nat)), x6, x7, x8, x9, x10, x11, x12, x13, x14, x15, x16, x17, x18, x19, some (.int w), x21, x22] := by
  have hr := rl X
  obtain ⟨v, a1, b1, c1, h1, h2, e1⟩ := roll_call (i := 1) (g := fCons (m2 (addD .S) (fn1 lenN (fVar 3)) (fC (.int 1))) fNil) (a := a) (b := b) (c := c) (r := [x0, some (dc a b c), some (.str t), some (.lst ((rws t).map .str)), some (.lst (iN (stl t))), x5, x6, x7, x8, x9, x10, x11, x12, x13, x14, x15, x16, x17, x18, x19, x20, x21, x22]) (many := (rws t).length + 1) (by omega) (by omega) rfl (by simp)
  obtain ⟨w, a', b', c', h3, h4, e2⟩ := roll_call (i := 1) (g := fCons (fC (.int 12)) fNil) (a := a1) (b := b1) (c := c1) (r := [x0, some (dc a1 b1 c1), some (.str t), some (.lst ((rws t).map .str)), some (.lst (iN (stl t))), x5, x6, x7, x8, x9, x10, x11, x12, x13, x14, x15, x16, x17, x18, x19, x20, x21, x22]) (many := 12) (by decide) (by decide) rfl (by simp)
  obtain ⟨n, rfl⟩ : ∃ n : Nat, v = n := ⟨v.toNat, by omega⟩
  refine ⟨a', b', c', n, w, h3, ?_⟩
  unfold ot7
  exact sAsg_ok (fTup_ok (fCons_ok e1 (fCons_ok e2 fNil_ok))) rfl
theorem told_o {f : M D} {d : D} {r r' : Rho} (h : f r = .ok d r') : fTold okT [80, 108, 97, 99, 101, 69, 114, 114, 111, 114] f r = .ok d r' := by
  unfold fTold; rw [h]
theorem told_x {f : M D} {r r' : Rho} (h : f r = .ex 0 r') : fTold okT [80, 108, 97, 99, 101, 69, 114, 114, 111, 114] f r = .ok (.str [80, 108, 97, 99, 101, 69, 114, 114, 111, 114]) r' := by
  unfold fTold; rw [h]; rfl
theorem o8 (X : TX t) (v : Nat) (w : Int) (hw : 0 ≤ w) : ot8 [x0, x1, some (.str t), some (.lst ((rws t).map .str)), some (.lst (iN (stl t))), some (.int (v : Nat)), x6, x7, x8, x9, x10, x11, x12, x13, x14, x15, x16, x17, x18, x19, some (.int w), x21, x22] = .nx [x0, x1, some (.str t), some (.lst ((rws t).map .str)), some (.lst (iN (stl t))), some (.int (v : Nat)), x6, x7, x8, x9, x10, x11, x12, x13, x14, x15, x16, x17, x18, x19, some (.int w), x21, x22] := by
  unfold ot8
  by_cases h : v < (rws t).length
  · have e1 : fTold okT [80, 108, 97, 99, 101, 69, 114, 114, 111, 114] (fCall [none, none, none] m_at_of (fCons (fVar 2) (fCons (fVar 5) (fCons (fVar 20) (fNil))))) [x0, x1, some (.str t), some (.lst ((rws t).map .str)), some (.lst (iN (stl t))), some (.int (v : Nat)), x6, x7, x8, x9, x10, x11, x12, x13, x14, x15, x16, x17, x18, x19, some (.int w), x21, x22] = .ok (.int ((S (rws t) v : Nat) + min w (rk t v).length)) [x0, x1, some (.str t), some (.lst ((rws t).map .str)), some (.lst (iN (stl t))), some (.int (v : Nat)), x6, x7, x8, x9, x10, x11, x12, x13, x14, x15, x16, x17, x18, x19, some (.int w), x21, x22] := told_o (by simp [at_ok h hw X])
    rw [sIf_ok (fB_ok (m2_ok e1 (y := .int ((S (rws t) v : Nat) + min w (rk t v).length)) (r2 := [x0, x1, some (.str t), some (.lst ((rws t).map .str)), some (.lst (iN (stl t))), some (.int (v : Nat)), x6, x7, x8, x9, x10, x11, x12, x13, x14, x15, x16, x17, x18, x19, some (.int w), x21, x22]) (by simp [h, ix_stL h, ix_rwL h, len_s (rk_TX X h).lim]) (ne_self (by simp))))]
    rfl
  · have e1 : fTold okT [80, 108, 97, 99, 101, 69, 114, 114, 111, 114] (fCall [none, none, none] m_at_of (fCons (fVar 2) (fCons (fVar 5) (fCons (fVar 20) (fNil))))) [x0, x1, some (.str t), some (.lst ((rws t).map .str)), some (.lst (iN (stl t))), some (.int (v : Nat)), x6, x7, x8, x9, x10, x11, x12, x13, x14, x15, x16, x17, x18, x19, some (.int w), x21, x22] = .ok (.str [80, 108, 97, 99, 101, 69, 114, 114, 111, 114]) [x0, x1, some (.str t), some (.lst ((rws t).map .str)), some (.lst (iN (stl t))), some (.int (v : Nat)), x6, x7, x8, x9, x10, x11, x12, x13, x14, x15, x16, x17, x18, x19, some (.int w), x21, x22] := told_x (by simp [at_ex h X])
    rw [sIf_ok (fB_ok (m2_ok e1 (y := .str [80, 108, 97, 99, 101, 69, 114, 114, 111, 114]) (r2 := [x0, x1, some (.str t), some (.lst ((rws t).map .str)), some (.lst (iN (stl t))), some (.int (v : Nat)), x6, x7, x8, x9, x10, x11, x12, x13, x14, x15, x16, x17, x18, x19, some (.int w), x21, x22]) (by simp [h]) (ne_self (by simp [okS]))))]
    rfl
theorem w9 (X : TX t) {r : Rho} {k : Nat} (hk : k < t.length) (h2 : r[2]? = some (some (.str t))) (h6 : 6 < r.length) : (fAnd (fB (m2 (inD false) (m2 ixD (fVar 2) (fVar 6)) (fC (.str g_LETTERS)))) (fOr (fB (m2 eqD (fVar 6) (fC (.int 0)))) (fB (m2 (inD true) (m2 ixD (fVar 2) (m2 subD (fVar 6) (fC (.int 1)))) (fC (.str g_LETTERS)))))) (r.set 6 (some (jN k))) = .ok (isW (at' t k) && (if k = 0 then !false else !isW (at' t (k - 1)))) (r.set 6 (some (jN k))) := by
  have e2 : (r.set 6 (some (jN k)))[2]? = some (some (.str t)) := by rw [List.getElem?_set_ne (by decide)]; exact h2
  have e6 : (r.set 6 (some (jN k)))[6]? = some (some (.int (k : Nat))) := by rw [List.getElem?_set_self h6]; rfl
  cases k with
  | zero =>
    have i0 : ixD (.str t) (.int 0) = some (.str [t[0]]) := ix_s X.lim hk
    simp [e2, e6, i0, at_get hk, isW]
  | succ k =>
    have hk' : k < t.length := by omega
    have i2 := ix_s X.lim hk
    rw [Int.natCast_succ] at i2
    have n0 : ¬ ((k : Int) + 1 = 0) := by omega
    simp [e2, e6, i2, ix_s X.lim hk', at_get hk, at_get hk', isW, n0]
theorem o9 (X : TX t) {r : Rho} (h2 : r[2]? = some (some (.str t))) (h6 : 6 < r.length) : ot9 r = .nx (r.set 21 (some (.int (wc false t : Nat)))) := by
  unfold ot9
  refine sSet_ok (fn1_ok (fLc_of (q5' X h2 (q5 X)) (fun k hk => w9 X (List.mem_range.mp hk) h2 h6) (fun k _ _ => fVar_ok (List.getElem?_set_self h6)) (rt5 X) (fun _ _ _ h => by cases h)) ?_)
  rw [len_l, List.length_map, words_eq]
theorem g10' (X : TX t) {r : Rho} (h3 : r[3]? = some (some (.lst ((rws t).map .str)))) (h22 : 22 < r.length) : fLc .S [22] (fIt lstO (fVar 3)) (bNm 22) (fYes) (fn1 lenN (fVar 22)) r = .ok (.lst ((rws t).map fun l => .int l.length)) r :=
  fLc_all (g := D.str) (by simp [h3]) (fun l hl => by
    have e : (r.set 22 (some (D.str l)))[22]? = some (some (.str l)) := List.getElem?_set_self h22
    have : lim l.length = true := lim_of (Nat.le_trans (rw_sub t l hl).1 (t4 X))
    simp [e, len_s this]) (rl5 X) (fun _ _ h => by cases h)
theorem o10 (X : TX t) {r : Rho} (h2 : r[2]? = some (some (.str t))) (h3 : r[3]? = some (some (.lst ((rws t).map .str)))) (h21 : r[21]? = some (some (.int (wc false t : Nat)))) (h22 : 22 < r.length) : ot10 r = .nx r := by
  obtain ⟨m, hm⟩ := mx_ex t
  have hm' : maxD (.lst ((rws t).map fun l => .int l.length)) = some (.int m) := hm
  unfold ot10
  simp [h2, h3, h21, counted_ok X hm, len_s X.lim, g10' X h3 h22, hm', ne_self (int4 _ _ _ _)]
theorem round_ok (z : D) (a b c : Int) : ∃ r, b_round [some z, some (dc a b c), none, none, none, none, none, none, none, none, none, none, none, none, none, none, none, none, none, none, none, none, none] = .nx r := by
  obtain ⟨t, a1, b1, c1, X, hl, e1⟩ := o1 (x0 := some z) (x2 := none) (x3 := none) (x4 := none) (x5 := none) (x6 := none) (x7 := none) (x8 := none) (x9 := none) (x10 := none) (x11 := none) (x12 := none) (x13 := none) (x14 := none) (x15 := none) (x16 := none) (x17 := none) (x18 := none) (x19 := none) (x20 := none) (x21 := none) (x22 := none) a b c
  obtain ⟨r6, e6, y⟩ := o6 X z (r := [some z, some (dc a1 b1 c1), some (.str t), some (.lst ((rws t).map .str)), some (.lst (iN (stl t))), none, none, none, none, none, none, none, none, none, none, none, none, none, none, none, none, none, none]) ⟨a1, b1, c1, none, none, none, none, none, none, none, none, none, none, none, none, none, rfl⟩
  obtain ⟨a2, b2, c2, y5, y7, y9, y10, y11, y12, y13, y14, y15, y16, y17, y18, y19, rfl⟩ := y
  obtain ⟨a3, b3, c3, v, w, hw, e7⟩ := o7 (x0 := some z) (x5 := y5) (x6 := none) (x7 := y7) (x8 := none) (x9 := y9) (x10 := y10) (x11 := y11) (x12 := y12) (x13 := y13) (x14 := y14) (x15 := y15) (x16 := y16) (x17 := y17) (x18 := y18) (x19 := y19) (x20 := none) (x21 := none) (x22 := none) X a2 b2 c2
  exact ⟨_, (sS_nx e1).trans ((sS_nx (o2 X)).trans ((sS_nx (o3 X)).trans ((sS_nx (o4 X)).trans ((sS_nx (o5 X)).trans ((sS_nx e6).trans ((sS_nx e7).trans ((sS_nx (o8 X v w hw)).trans ((sS_nx (o9 X rfl (by simp))).trans (o10 X rfl rfl rfl (by simp))))))))))⟩
end
end Law

set_option Elab.async false
set_option linter.all false
set_option maxRecDepth 100000
set_option maxHeartbeats 800000
namespace Law
open PySem L2 Mir
theorem rounds_ok (ns : List Int) : ∃ a b c, rs (m__law_rounds [scrD ns, .int 1]) = .ok (.lst [dc a b c]) := by
  have fin : ∀ z : Int, ∃ a b c, fLcF [3] (fIt lstO (fVar 2)) (bNm 3) (fYes) (fCall [none] m__law_dice (fCons (fVar 3) (fNil))) [some (scrD ns), some (.int 1), some (.lst [.int z]), none] = .ok (.lst [dc a b c]) [some (scrD ns), some (.int 1), some (.lst [.int z]), none] := by
    intro z
    obtain ⟨a, b, c, e⟩ := dice_ok z
    refine ⟨a, b, c, ?_⟩
    have hc : fCall [none] m__law_dice (fCons (fVar 3) (fNil)) [some (scrD ns), some (.int 1), some (.lst [.int z]), some (.int z)] = .ok (dc a b c) [some (scrD ns), some (.int 1), some (.lst [.int z]), some (.int z)] := by
      simp [e]
    have hl : lcL [3] (bNm 3) fYes (fCall [none] m__law_dice (fCons (fVar 3) (fNil))) [.int z] [some (scrD ns), some (.int 1), some (.lst [.int z]), none] = some ([dc a b c], [some (scrD ns), some (.int 1), some (.lst [.int z]), none]) := by
      refine (lcL_yes (b := bNm 3) (t := fYes) (r1 := [some (scrD ns), some (.int 1), some (.lst [.int z]), some (.int z)]) (r2 := [some (scrD ns), some (.int 1), some (.lst [.int z]), some (.int z)]) rfl rfl hc).trans ?_
      rfl
    unfold fLcF
    rw [bnd_ok (a := [.int z]) (r' := [some (scrD ns), some (.int 1), some (.lst [.int z]), none]) (by rfl)]
    show (match lcL [3] (bNm 3) fYes (fCall [none] m__law_dice (fCons (fVar 3) (fNil))) [.int z] [some (scrD ns), some (.int 1), some (.lst [.int z]), none] with | none => Out.stk | some (l, r2) => if lim l.length then Out.ok (D.lst l) (unw _ [3] r2) else .stk) = _
    rw [hl]
    rfl
  show ∃ a b c, rs (runB 4 b__law_rounds _) = _
  simp only [rs_run]
  show ∃ a b c, rF (b__law_rounds [some (scrD ns), some (.int 1), none, none]) = _
  unfold b__law_rounds
  cases ns with
  | nil =>
    obtain ⟨a, b, c, e⟩ := fin 0
    refine ⟨a, b, c, ?_⟩
    have hs : fSl .S (fVar 0) (fNo) (fPart (fVar 1)) [some (scrD []), some (.int 1), none, none] = .ok (.lst []) [some (scrD []), some (.int 1), none, none] := rfl
    rw [sS_nx (sSet_ok hs)]
    show rF (sS _ _ [some (scrD []), some (.int 1), some (.lst []), none]) = _
    have hq : eqD (.lst []) (.lst []) = some (.bl true) := eq_nil (by simp)
    rw [sS_nx (r' := [some (scrD []), some (.int 1), some (.lst [.int 0]), none]) (by simp [hq]), sRet_ok e]
    rfl
  | cons n ns =>
    obtain ⟨a, b, c, e⟩ := fin n
    refine ⟨a, b, c, ?_⟩
    have hcut : cutL ((n :: ns).map D.int) none (some (1 : Int)) = [.int n] := by
      rw [show (1 : Int) = ((1 : Nat) : Int) from rfl, cutL_to (by simp)]
      rfl
    have hs : fSl .S (fVar 0) (fNo) (fPart (fVar 1)) [some (scrD (n :: ns)), some (.int 1), none, none] = .ok (.lst [.int n]) [some (scrD (n :: ns)), some (.int 1), none, none] := by
      simp only [fSl_k, fVar_k, List.getElem?_cons_zero, kV_some, kS1_ok, fNo_ok, kS2_ok, fPart_k, List.getElem?_cons_succ, kP_ok, kS3_ok, scrD, sl_cS, hcut, lO_some]
    rw [sS_nx (sSet_ok hs)]
    show rF (sS _ _ [some (scrD (n :: ns)), some (.int 1), some (.lst [.int n]), none]) = _
    have hq : eqD (.lst [.int n]) (.lst []) = some (.bl false) := eq_nil (by simp)
    rw [sS_nx (r' := [some (scrD (n :: ns)), some (.int 1), some (.lst [.int n]), none]) (by simp [hq]), sRet_ok e]
    rfl
end Law

set_option Elab.async false
set_option linter.all false
set_option maxRecDepth 100000
set_option maxHeartbeats 800000
namespace Law
open PySem L2 Mir
def isTr (x : Out D) : Bool := match x with
  | .ok (.bl true) _ => true
  | _ => false
theorem plain_tr : isTr (m__law_plain []) = true := by decide +kernel
theorem plain_rs : rs (m__law_plain []) = .ok (.bl true) := by
  have h := plain_tr
  unfold isTr at h
  split at h
  · rename_i e; rw [e]; rfl
  · cases h
theorem law_ok (ns : List Int) : ∃ r, m_law [scrD ns] = .ok (.bl true) r := by
  obtain ⟨a, b, c, e⟩ := rounds_ok ns
  let Z0 : Rho := [some (scrD ns), none, none, none, none, none, none, none, none, none, none, none, none, none, none, none, none, none, none, none, none, none, none]
  obtain ⟨r, hr⟩ := round_ok (scrD ns) a b c
  have h1 : fCall [none, none] m__law_rounds (fCons (fVar 0) (fCons (fC (.int 1)) (fNil))) Z0 = .ok (.lst [dc a b c]) Z0 := by
    show fCall [none, none] m__law_rounds (fCons (fVar 0) (fCons (fC (.int 1)) (fNil))) [some (scrD ns), none, none, none, none, none, none, none, none, none, none, none, none, none, none, none, none, none, none, none, none, none, none] = _
    simp [e]
    rfl
  have h2 : sForF 1 (fCall [none, none] m__law_rounds (fCons (fVar 0) (fCons (fC (.int 1)) (fNil)))) b_round Z0 = .nx r := by
    unfold sForF
    rw [sE_ok h1]
    show forL (bNm 1) b_round [dc a b c] Z0 = _
    exact (forL_cons rfl hr).trans rfl
  have h3 : b_law Z0 = .rt (.bl true) r := by
    rw [b_law_eq, sS_nx h2]
    refine sRet_ok ?_
    rw [call0, plain_rs]; rfl
  refine ⟨r, ?_⟩
  show (match b_law Z0 with | .nx r => Out.ok D.non r | .rt d r => .ok d r | .ex c r => .ex c r | _ => .stk) = _
  rw [h3]
end Law

set_option maxHeartbeats 0
namespace Law
open PySem L2 Mir
/-! the end -/
def dd_rows_of : He.DefD := ⟨("rows_of", none), "rows_of", "rows_of", defArgs s_rows_of, defBody s_rows_of, defScope s_rows_of, [], []⟩
def dd_starts_of : He.DefD := ⟨("starts_of", none), "starts_of", "starts_of", defArgs s_starts_of, defBody s_starts_of, defScope s_starts_of, [], []⟩
def dd_check_at : He.DefD := ⟨("check_at", none), "check_at", "check_at", defArgs s_check_at, defBody s_check_at, defScope s_check_at, [], []⟩
def dd_row_and_column : He.DefD := ⟨("row_and_column", none), "row_and_column", "row_and_column", defArgs s_row_and_column, defBody s_row_and_column, defScope s_row_and_column, [], []⟩
def dd_at_of : He.DefD := ⟨("at_of", none), "at_of", "at_of", defArgs s_at_of, defBody s_at_of, defScope s_at_of, [], []⟩
def dd_kind_at : He.DefD := ⟨("kind_at", none), "kind_at", "kind_at", defArgs s_kind_at, defBody s_kind_at, defScope s_kind_at, [], []⟩
def dd_word_at : He.DefD := ⟨("word_at", none), "word_at", "word_at", defArgs s_word_at, defBody s_word_at, defScope s_word_at, [], []⟩
def dd_next_word : He.DefD := ⟨("next_word", none), "next_word", "next_word", defArgs s_next_word, defBody s_next_word, defScope s_next_word, [], []⟩
def dd_last_word : He.DefD := ⟨("last_word", none), "last_word", "last_word", defArgs s_last_word, defBody s_last_word, defScope s_last_word, [], []⟩
def dd_up_or_down : He.DefD := ⟨("up_or_down", none), "up_or_down", "up_or_down", defArgs s_up_or_down, defBody s_up_or_down, defScope s_up_or_down, [], []⟩
def dd_paragraph : He.DefD := ⟨("paragraph", none), "paragraph", "paragraph", defArgs s_paragraph, defBody s_paragraph, defScope s_paragraph, [], []⟩
def dd_counted : He.DefD := ⟨("counted", none), "counted", "counted", defArgs s_counted, defBody s_counted, defScope s_counted, [], []⟩
def dd__law_dice : He.DefD := ⟨("_law_dice", none), "_law_dice", "_law_dice", defArgs s__law_dice, defBody s__law_dice, defScope s__law_dice, [], []⟩
def dd__law_roll : He.DefD := ⟨("_law_roll", none), "_law_roll", "_law_roll", defArgs s__law_roll, defBody s__law_roll, defScope s__law_roll, [], []⟩
def dd__law_rounds : He.DefD := ⟨("_law_rounds", none), "_law_rounds", "_law_rounds", defArgs s__law_rounds, defBody s__law_rounds, defScope s__law_rounds, [], []⟩
def dd__law_told : He.DefD := ⟨("_law_told", none), "_law_told", "_law_told", defArgs s__law_told, defBody s__law_told, defScope s__law_told, [], []⟩
def dd__law_text : He.DefD := ⟨("_law_text", none), "_law_text", "_law_text", defArgs s__law_text, defBody s__law_text, defScope s__law_text, [], []⟩
def dd__law_kind : He.DefD := ⟨("_law_kind", none), "_law_kind", "_law_kind", defArgs s__law_kind, defBody s__law_kind, defScope s__law_kind, [], []⟩
def dd__law_rows : He.DefD := ⟨("_law_rows", none), "_law_rows", "_law_rows", defArgs s__law_rows, defBody s__law_rows, defScope s__law_rows, [], []⟩
def dd__law_bare : He.DefD := ⟨("_law_bare", none), "_law_bare", "_law_bare", defArgs s__law_bare, defBody s__law_bare, defScope s__law_bare, [], []⟩
def dd__law_plain : He.DefD := ⟨("_law_plain", none), "_law_plain", "_law_plain", defArgs s__law_plain, defBody s__law_plain, defScope s__law_plain, [], []⟩
def dd_law : He.DefD := ⟨("law", none), "law", "law", defArgs s_law, defBody s_law, defScope s_law, [], []⟩
def fnl : List He.DefD := [dd_rows_of, dd_starts_of, dd_check_at, dd_row_and_column, dd_at_of, dd_kind_at, dd_word_at, dd_next_word, dd_last_word, dd_up_or_down, dd_paragraph, dd_counted, dd__law_dice, dd__law_roll, dd__law_rounds, dd__law_told, dd__law_text, dd__law_kind, dd__law_rows, dd__law_bare, dd__law_plain, dd_law]
def fal : List He.Fa := [.glo "rows_of", .glo "starts_of", .glo "check_at", .glo "row_and_column", .glo "at_of", .glo "kind_at", .glo "word_at", .glo "next_word", .glo "last_word", .glo "up_or_down", .glo "paragraph", .glo "counted", .glo "_law_dice", .glo "_law_roll", .glo "_law_rounds", .glo "_law_told", .glo "_law_text", .glo "_law_kind", .glo "_law_rows", .glo "_law_bare", .glo "_law_plain", .glo "law", .str "END" "\n", .str "LETTERS" "abcdefghijklmnopqrstuvwxyzABCDEFGHIJKLMNOPQRSTUVWXYZ0123456789_", .free "abs", .free "enumerate", .free "int", .free "len", .free "list", .free "max", .free "min", .free "range", .free "sum", .free "tuple", .glo "PlaceError", .exc "PlaceError", .exm "PlaceError" "PlaceError" true]
def tfl : List He.Defn := [("counted", none), ("_law_plain", none), ("law", none)]
def exl (K : PySem.W.Frag) : Bool := decide ((He.cT K ("counted", none)).2 ≠ (He.cT K ("_law_plain", none)).2) && decide ((He.cT K ("counted", none)).2 ≠ (He.cT K ("law", none)).2) && decide ((He.cT K ("_law_plain", none)).2 ≠ (He.cT K ("law", none)).2)
def names : List Str := ["counted", "_law_plain", "law"]
def aF (K : PySem.W.Frag) : Nat → Addr := fun i => match i with | 0 => He.fAd K ("rows_of", none) | 1 => He.fAd K ("starts_of", none) | 2 => He.fAd K ("check_at", none) | 3 => He.fAd K ("row_and_column", none) | 4 => He.fAd K ("at_of", none) | 5 => He.fAd K ("kind_at", none) | 6 => He.fAd K ("word_at", none) | 7 => He.fAd K ("next_word", none) | 8 => He.fAd K ("last_word", none) | 9 => He.fAd K ("up_or_down", none) | 10 => He.fAd K ("paragraph", none) | 11 => He.fAd K ("counted", none) | 12 => He.fAd K ("_law_dice", none) | 13 => He.fAd K ("_law_roll", none) | 14 => He.fAd K ("_law_rounds", none) | 15 => He.fAd K ("_law_told", none) | 16 => He.fAd K ("_law_text", none) | 17 => He.fAd K ("_law_kind", none) | 18 => He.fAd K ("_law_rows", none) | 19 => He.fAd K ("_law_bare", none) | 20 => He.fAd K ("_law_plain", none) | 21 => He.fAd K ("law", none) | _ => 0
def tcF (K : PySem.W.Frag) : Nat → Addr := fun i => match i with | 0 => (He.cT K ("counted", none)).1 | 1 => (He.cT K ("_law_plain", none)).1 | 2 => (He.cT K ("law", none)).1 | _ => (He.cT K ("counted", none)).1
def tpF (K : PySem.W.Frag) : Nat → Addr := fun i => match i with | 0 => (He.cT K ("counted", none)).2 | 1 => (He.cT K ("_law_plain", none)).2 | 2 => (He.cT K ("law", none)).2 | _ => (He.cT K ("counted", none)).2
def TbF (K : PySem.W.Frag) : Tb := ⟨fun i => match i with | 0 => He.ga K "PlaceError" | _ => 0, fun _ => (0, []), [((He.cT K ("counted", none)).2, ((("counted" : Str) ++ ".<locals>.") ++ ("<genexpr>" : Str))), ((He.cT K ("_law_plain", none)).2, ((("_law_plain" : Str) ++ ".<locals>.") ++ ("<lambda>" : Str))), ((He.cT K ("law", none)).2, ((("law" : Str) ++ ".<locals>.") ++ ("<lambda>" : Str)))]⟩
theorem facts {K : PySem.W.Frag} {h : Heap} {mg : Str → Option Value} {w : World} (X : K.In h) (G : h.Ns mainGlobals mg) (c : He.SaysX fal fnl [] tfl exl w h K) : ∃ (d : Nat → FuncData) (tk : Nat → Tok), Txt K mg (TbF K) (aF K) d tk (tcF K) (tpF K) ∧ FunD K "law" "law" (defArgs s_law) (defBody s_law) (defScope s_law) [] [] (He.fAd K ("law", none)) (d 21) := by
  have cd := c.t.d
  obtain ⟨d0, F0⟩ := cd.def_ 0 (d := dd_rows_of) rfl
  obtain ⟨d1, F1⟩ := cd.def_ 1 (d := dd_starts_of) rfl
  obtain ⟨d2, F2⟩ := cd.def_ 2 (d := dd_check_at) rfl
  obtain ⟨d3, F3⟩ := cd.def_ 3 (d := dd_row_and_column) rfl
  obtain ⟨d4, F4⟩ := cd.def_ 4 (d := dd_at_of) rfl
  obtain ⟨d5, F5⟩ := cd.def_ 5 (d := dd_kind_at) rfl
  obtain ⟨d6, F6⟩ := cd.def_ 6 (d := dd_word_at) rfl
  obtain ⟨d7, F7⟩ := cd.def_ 7 (d := dd_next_word) rfl
  obtain ⟨d8, F8⟩ := cd.def_ 8 (d := dd_last_word) rfl
  obtain ⟨d9, F9⟩ := cd.def_ 9 (d := dd_up_or_down) rfl
  obtain ⟨d10, F10⟩ := cd.def_ 10 (d := dd_paragraph) rfl
  obtain ⟨d11, F11⟩ := cd.def_ 11 (d := dd_counted) rfl
  obtain ⟨d12, F12⟩ := cd.def_ 12 (d := dd__law_dice) rfl
  obtain ⟨d13, F13⟩ := cd.def_ 13 (d := dd__law_roll) rfl
  obtain ⟨d14, F14⟩ := cd.def_ 14 (d := dd__law_rounds) rfl
  obtain ⟨d15, F15⟩ := cd.def_ 15 (d := dd__law_told) rfl
  obtain ⟨d16, F16⟩ := cd.def_ 16 (d := dd__law_text) rfl
  obtain ⟨d17, F17⟩ := cd.def_ 17 (d := dd__law_kind) rfl
  obtain ⟨d18, F18⟩ := cd.def_ 18 (d := dd__law_rows) rfl
  obtain ⟨d19, F19⟩ := cd.def_ 19 (d := dd__law_bare) rfl
  obtain ⟨d20, F20⟩ := cd.def_ 20 (d := dd__law_plain) rfl
  obtain ⟨d21, F21⟩ := cd.def_ 21 (d := dd_law) rfl
  obtain ⟨tEND, GEND⟩ := He.str_ok X G (cd.fact 22 rfl)
  obtain ⟨tLETTERS, GLETTERS⟩ := He.str_ok X G (cd.fact 23 rfl)
  have ex := c.more
  simp only [exl, Bool.and_eq_true, decide_eq_true_eq] at ex
  obtain ⟨⟨n01, n02⟩, n12⟩ := ex
  refine ⟨fun i => match i with | 0 => d0 | 1 => d1 | 2 => d2 | 3 => d3 | 4 => d4 | 5 => d5 | 6 => d6 | 7 => d7 | 8 => d8 | 9 => d9 | 10 => d10 | 11 => d11 | 12 => d12 | 13 => d13 | 14 => d14 | 15 => d15 | 16 => d16 | 17 => d17 | 18 => d18 | 19 => d19 | 20 => d20 | 21 => d21 | _ => d0, fun i => match i with | 0 => tEND | 1 => tLETTERS | _ => 0, ⟨?_, ?_, ?_, ?_, ?_, ?_, ?_, ?_, ?_, ?_, ?_, ?_, ?_, ?_, ?_, ?_, ?_, ?_, ?_, ?_, ?_, ?_, ?_, ?_, ?_, ?_, ?_, ?_, ?_, ?_, ?_, ?_, ?_, ?_, ?_, ?_, ?_, ?_, ?_, ?_, ?_, ?_, ?_, ?_⟩, F21⟩
  · exact fnAt_of X G F0 (fun _ _ _ _ _ _ us hl => match us, hl with | [_], _ => rfl) (cd.fact 0 rfl)
  · exact fnAt_of X G F1 (fun _ _ _ _ _ _ us hl => match us, hl with | [_], _ => rfl) (cd.fact 1 rfl)
  · exact fnAt_of X G F2 (fun _ _ _ _ _ _ us hl => match us, hl with | [_, _], _ => rfl) (cd.fact 2 rfl)
  · exact fnAt_of X G F3 (fun _ _ _ _ _ _ us hl => match us, hl with | [_, _], _ => rfl) (cd.fact 3 rfl)
  · exact fnAt_of X G F4 (fun _ _ _ _ _ _ us hl => match us, hl with | [_, _, _], _ => rfl) (cd.fact 4 rfl)
  · exact fnAt_of X G F5 (fun _ _ _ _ _ _ us hl => match us, hl with | [_, _], _ => rfl) (cd.fact 5 rfl)
  · exact fnAt_of X G F6 (fun _ _ _ _ _ _ us hl => match us, hl with | [_, _], _ => rfl) (cd.fact 6 rfl)
  · exact fnAt_of X G F7 (fun _ _ _ _ _ _ us hl => match us, hl with | [_, _], _ => rfl) (cd.fact 7 rfl)
  · exact fnAt_of X G F8 (fun _ _ _ _ _ _ us hl => match us, hl with | [_, _], _ => rfl) (cd.fact 8 rfl)
  · exact fnAt_of X G F9 (fun _ _ _ _ _ _ us hl => match us, hl with | [_, _, _, _], _ => rfl) (cd.fact 9 rfl)
  · exact fnAt_of X G F10 (fun _ _ _ _ _ _ us hl => match us, hl with | [_, _], _ => rfl) (cd.fact 10 rfl)
  · exact fnAt_of X G F11 (fun _ _ _ _ _ _ us hl => match us, hl with | [_], _ => rfl) (cd.fact 11 rfl)
  · exact fnAt_of X G F12 (fun _ _ _ _ _ _ us hl => match us, hl with | [_], _ => rfl) (cd.fact 12 rfl)
  · exact fnAt_of X G F13 (fun _ _ _ _ _ _ us hl => match us, hl with | [_, _], _ => rfl) (cd.fact 13 rfl)
  · exact fnAt_of X G F14 (fun _ _ _ _ _ _ us hl => match us, hl with | [_, _], _ => rfl) (cd.fact 14 rfl)
  · exact fnAt_of X G F15 (fun _ _ _ _ _ _ us hl => match us, hl with | [_], _ => rfl) (cd.fact 15 rfl)
  · exact fnAt_of X G F16 (fun _ _ _ _ _ _ us hl => match us, hl with | [_, _], _ => rfl) (cd.fact 16 rfl)
  · exact fnAt_of X G F17 (fun _ _ _ _ _ _ us hl => match us, hl with | [_], _ => rfl) (cd.fact 17 rfl)
  · exact fnAt_of X G F18 (fun _ _ _ _ _ _ us hl => match us, hl with | [_], _ => rfl) (cd.fact 18 rfl)
  · exact fnAt_of X G F19 (fun _ _ _ _ _ _ us hl => match us, hl with | [_], _ => rfl) (cd.fact 19 rfl)
  · exact fnAt_of X G F20 (fun _ _ _ _ _ _ us hl => match us, hl with | [], _ => rfl) (cd.fact 20 rfl)
  · exact fnAt_of X G F21 (fun _ _ _ _ _ _ us hl => match us, hl with | [_], _ => rfl) (cd.fact 21 rfl)
  · exact GEND
  · exact GLETTERS
  · exact He.free_ok X G (cd.fact 24 rfl)
  · exact He.free_ok X G (cd.fact 25 rfl)
  · exact He.free_ok X G (cd.fact 26 rfl)
  · exact He.free_ok X G (cd.fact 27 rfl)
  · exact He.free_ok X G (cd.fact 28 rfl)
  · exact He.free_ok X G (cd.fact 29 rfl)
  · exact He.free_ok X G (cd.fact 30 rfl)
  · exact He.free_ok X G (cd.fact 31 rfl)
  · exact He.free_ok X G (cd.fact 32 rfl)
  · exact He.free_ok X G (cd.fact 33 rfl)
  · exact exAt_of X G (cd.fact 34 rfl) (cd.fact 35 rfl) (cd.fact 36 rfl)
  · exact funC_of F11
  · simp [TbF, tpF]
  · intro p hp e
    simp only [TbF, List.mem_cons, List.mem_nil_iff, or_false] at hp
    rcases hp with rfl | rfl | rfl
    · rfl
    · exact absurd e (Ne.symm n01)
    · exact absurd e (Ne.symm n02)
  · exact funC_of F20
  · simp [TbF, tpF]
  · intro p hp e
    simp only [TbF, List.mem_cons, List.mem_nil_iff, or_false] at hp
    rcases hp with rfl | rfl | rfl
    · exact absurd e n01
    · rfl
    · exact absurd e (Ne.symm n12)
  · exact funC_of F21
  · simp [TbF, tpF]
  · intro p hp e
    simp only [TbF, List.mem_cons, List.mem_nil_iff, or_false] at hp
    rcases hp with rfl | rfl | rfl
    · exact absurd e n02
    · exact absurd e n12
    · rfl
abbrev R : PySem.W.OpenRow := PySem.W.OpenLaw.row PySem.Challenge.rw_editstack_k01_places_in_texts
abbrev hkX : PySem.W.Hook := He.hookX 5 fal fnl [] tfl exl
def obX (s : PySem.W.SharedT) : He.AlX := He.obsX 5 fal fnl [] tfl exl (HandSHeadRun.getT s)
theorem obX_eq (s : PySem.W.SharedT) : obX s = hkX.obs s.abs := He.obsX_eq (HandSHeadRun.getT_eq s)
theorem runX (w : World) : HandSHeadRun.RunEq R (PySem.W.view R.prog [28]) hkX obX 2000 ["EditError", "PlaceError", "END", "LETTERS", "rows_of", "starts_of", "check_at", "row_and_column", "at_of", "kind_at", "word_at", "next_word", "last_word", "up_or_down", "paragraph", "counted", "_law_dice", "_law_roll", "_law_rounds", "_law_told", "_law_text", "_law_kind", "_law_rows", "_law_bare", "_law_plain"] w := by
  intro os
  kernel_rfl

theorem law_walk (ok : ∀ ns : List Int, ns.length ≤ 63 → (∀ z ∈ ns, Builtin.Int.intBits z ≤ 1048576) → ∃ r, m_law [scrD ns] = .ok (.bl true) r) :
    PySem.W.WalkO (PySem.W.view (PySem.W.OpenLaw.row PySem.Challenge.rw_editstack_k01_places_in_texts).prog [28]) ["EditError", "PlaceError", "END", "LETTERS", "rows_of", "starts_of", "check_at", "row_and_column", "at_of", "kind_at", "word_at", "next_word", "last_word", "up_or_down", "paragraph", "counted", "_law_dice", "_law_roll", "_law_rounds", "_law_told", "_law_text", "_law_kind", "_law_rows", "_law_bare", "_law_plain"] (PySem.W.XL (PySem.W.view (PySem.W.OpenLaw.row PySem.Challenge.rw_editstack_k01_places_in_texts).prog [28]) []) hkX.says (PySem.W.OpenLaw.row PySem.Challenge.rw_editstack_k01_places_in_texts).toRowW (HandSHeadRun.topDef (PySem.W.OpenLaw.row PySem.Challenge.rw_editstack_k01_places_in_texts).prog 28) [] (fun f vs => PySem.call f vs) := by
  refine LamX.walk_ofTsE (l := PySem.Challenge.rw_editstack_k01_places_in_texts) (n := 63) (k := 11) (x := "script") (CX := fun w => L2.CX (PySem.Challenge.rw_editstack_k01_places_in_texts).prog w) rfl (by decide) (by kernel_rfl) ⟨rfl, by decide, by decide⟩ ?F (fun w H s e s' z => ?G)
  case G =>
    obtain ⟨_, _, _, _, _, _, _, _, _, _, _, _, y⟩ := z
    exact y
  intro w mg fa h Y G hmg0
  obtain ⟨K, KX, c⟩ := Y
  have hmg : mg ("law" : PySem.Str) = some (.ref fa) := by
    have e : (HandSHeadRun.topDef (PySem.W.OpenLaw.row PySem.Challenge.rw_editstack_k01_places_in_texts).prog 28).name = ("law" : PySem.Str) := by kernel_rfl
    rw [← e]
    exact hmg0
  obtain ⟨d, tk, Z, FL⟩ := facts KX G c
  have e := hmg.symm.trans Z.flaw.g
  cases e
  refine ⟨K, KX, d 21, tfl.map (He.cT K), spD K (TbF K) N_law 1 [0, 1, 0, 0, 0, 0, 0, 0, 0, 0, 0, 0, 0, 0, 0, 0, 0, 0, 0, 0, 0, 0, 0] .S m_law, fun p hp => ?_, fun p hp => ?_, fun p hp => ?_, fun s u => ?_, fun H A ns hl hb hT hS => ?_, fun base hK hG hB => ok_law Z fun i => ?_⟩
  · obtain ⟨q, hq, rfl⟩ := List.mem_map.mp hp
    exact c.empty q hq
  · obtain ⟨q, hq, rfl⟩ := List.mem_map.mp hp
    exact c.out q hq
  · obtain ⟨q, hq, rfl⟩ := List.mem_map.mp hp
    exact PySem.W.codeHd_of_K KX (c.hd q hq)
  · have b := FunD.bindsA (ps := ["script"]) FL fun _ _ _ _ _ _ us hl => match us, hl with | [_], _ => rfl
    exact b s [u] rfl
  · obtain ⟨r, hr⟩ := ok ns hl hb
    refine sp_law (r := r) (by decide) rfl (fun p hp => ?_) hS hr
    have key : ∀ q ∈ tfl, H (He.cT K q).2 = some (.tbl #[]) := fun q hq => hT _ (List.mem_map.mpr ⟨q, hq, rfl⟩)
    simp only [TbF, List.mem_cons, List.mem_nil_iff, or_false] at hp
    rcases hp with rfl | rfl | rfl
    · exact LamX.TabS.nil (key ("counted", none) (by simp [tfl]))
    · exact LamX.TabS.nil (key ("_law_plain", none) (by simp [tfl]))
    · exact LamX.TabS.nil (key ("law", none) (by simp [tfl]))
  · have key : ∀ q ∈ tfl, LamX.TabB base mg (He.cT K q).1 (He.cT K q).2 := fun q hq => hB _ (List.mem_map.mpr ⟨q, hq, rfl⟩)
    match i with
    | 0 => exact key ("counted", none) (by simp [tfl])
    | 1 => exact key ("_law_plain", none) (by simp [tfl])
    | 2 => exact key ("law", none) (by simp [tfl])
    | _ + 3 => exact key ("counted", none) (by simp [tfl])
theorem law_all (ok : ∀ ns : List Int, ns.length ≤ 63 → (∀ z ∈ ns, Builtin.Int.intBits z ≤ 1048576) → ∃ r, m_law [scrD ns] = .ok (.bl true) r) (hw : (PySem.W.OpenLaw.row PySem.Challenge.rw_editstack_k01_places_in_texts).toRowW.promised) : (PySem.W.OpenLaw.row PySem.Challenge.rw_editstack_k01_places_in_texts).Holds :=
  HandSHeadRun.head_any (r := PySem.W.OpenLaw.row PySem.Challenge.rw_editstack_k01_places_in_texts) (q := PySem.W.view (PySem.W.OpenLaw.row PySem.Challenge.rw_editstack_k01_places_in_texts).prog [28]) (H := hkX) (ob := obX) (M := 2000) (loose := ["EditError", "PlaceError", "END", "LETTERS", "rows_of", "starts_of", "check_at", "row_and_column", "at_of", "kind_at", "word_at", "next_word", "last_word", "up_or_down", "paragraph", "counted", "_law_dice", "_law_roll", "_law_rounds", "_law_told", "_law_text", "_law_kind", "_law_rows", "_law_bare", "_law_plain"]) (d := HandSHeadRun.topDef (PySem.W.OpenLaw.row PySem.Challenge.rw_editstack_k01_places_in_texts).prog 28) (kwd := []) obX_eq
    (by kernel_rfl) (fun s => by kernel_rfl) runX (by kernel_rfl) (by kernel_rfl) (by kernel_rfl) (by rfl) (by decide +kernel) (by decide +kernel) ⟨rfl, rfl, rfl, rfl, rfl, by decide +kernel⟩ hw (law_walk ok)

end Law
open PySem PySem.W PyProof.Rows
theorem PySem.Challenge.cw_editstack_k01_places_in_texts_holds : PySem.Challenge.rw_editstack_k01_places_in_texts.Holds := by
  w_on; o_law
  refine Law.law_all (fun ns _ _ => Law.law_ok ns) ?hw
  case hw => w_witness2

