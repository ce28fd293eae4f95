import PyProof.Rows.All
import Wide.All
import OpenK.AllK
import Wide.FinOn
import KE.KStateDown
import HandS.ForMost
import HandS.Walk
import HandS.Wide
import HandS.TupAny
import HandS.Deep
import HandS.Style
import HandS.TupLe
import HandS.Defaults
import HandS.SetFor
import HandS.SortInts
import HandS.IsInst
import HandS.Conv
import HandS.SetKeys
import KE.GoesMore
import HandS.Zip
import HandS.Strs
import HandS.Head0
import HandS.Head1
import HandS.Head2
import HandS.HeadEnd
import HandS.HeadHook1
import HandS.HeadHook2
import PySem.Challenge.RW_keysapart_k95_whole_what_disks_keep_coun
set_option Elab.async false
set_option linter.all false
set_option maxRecDepth 100000
set_option maxHeartbeats 0
/-! DzA: values as trees, mutable objects in a small store; how they lie in the abstract heap; the lifted judgements. -/
namespace DZ
open PySem PySem.Spec PyProof.Rows L2

/-- a value as a tree. lst, obj: a list, an instance that is never changed again; scr: the script; loc n: the n-th mutable object -/
inductive D where
  | non | bl (b : Bool) | int (i : Int) | str (x : Str)
  | tup (xs : List D) | lst (xs : List D) | scr (xs : List Int)
  | obj (c : Str) (fs : List (Str × D))
  | loc (n : Nat)

/-- a mutable object -/
inductive Cell where
  | lst (xs : List D)
  | dct (kvs : List (Key × D))
  | ins (c : Str) (fs : List (Str × D))
  /-- a dict that a loop walks -/
  | lck (kvs : List (Key × D))
abbrev Store := List Cell

/-- where the mutable objects lie; lists that are just being made -/
structure Wo where
  io : List Addr
  be : List Addr := []
def Wo.no (w : Wo) (p : Addr) : Prop := p ∉ w.io ∧ p ∉ w.be

/-- the written part, the classes -/
structure Gx where
  K : PySem.W.Frag
  cl : Str → Option Addr

mutual
def RepV (g : Gx) (w : Wo) (H : Hp) : D → V → Prop
  | .non, v => v = .non
  | .bl b, v => v = .bl b
  | .int i, v => v = .int i
  | .str x, v => v = .str x
  | .tup xs, v => ∃ p vs, v = .ref p ∧ SqT g.K H p vs ∧ RepVs g w H xs vs
  | .lst xs, v => ∃ p vs, v = .ref p ∧ H p = some (.lst vs) ∧ w.no p ∧ RepVs g w H xs vs
  | .scr ns, v => ∃ p, v = .ref p ∧ ((Rd H p (.lst (ns.map V.int)) ∧ w.no p) ∨ ∀ H, SqL g.K H p (ns.map V.int))
  | .obj c fs, v => ∃ p C dx vs, v = .ref p ∧ g.cl c = some C ∧ H p = some (.ins C dx vs) ∧ w.no p ∧ RepFs g w H fs vs
  | .loc n, v => ∃ p, w.io[n]? = some p ∧ v = .ref p
def RepVs (g : Gx) (w : Wo) (H : Hp) : List D → List V → Prop
  | [], vs => vs = []
  | d :: ds, vs => ∃ v r, vs = v :: r ∧ RepV g w H d v ∧ RepVs g w H ds r
def RepFs (g : Gx) (w : Wo) (H : Hp) : List (Str × D) → List (Str × V) → Prop
  | [], vs => vs = []
  | (x, d) :: ds, vs => ∃ v r, vs = (x, v) :: r ∧ RepV g w H d v ∧ RepFs g w H ds r
end
def RepKs (g : Gx) (w : Wo) (H : Hp) : List (Key × D) → List (Key × V) → Prop
  | [], vs => vs = []
  | (x, d) :: ds, vs => ∃ v r, vs = (x, v) :: r ∧ RepV g w H d v ∧ RepKs g w H ds r

def CellAt (g : Gx) (w : Wo) (H : Hp) (p : Addr) : Cell → Prop
  | .lst xs => ∃ vs, H p = some (.lst vs) ∧ RepVs g w H xs vs
  | .dct kvs => ∃ vs, H p = some (.dK vs) ∧ RepKs g w H kvs vs
  | .ins c fs => ∃ C dx vs, g.cl c = some C ∧ H p = some (.ins C dx vs) ∧ RepFs g w H fs vs
  | .lck kvs => ∃ o vs, H p = some (.frz o (.dK vs)) ∧ RepKs g w H kvs vs

structure RepS (g : Gx) (w : Wo) (S : Store) (H : Hp) : Prop where
  len : w.io.length = S.length
  nd : w.io.Nodup
  at_ : ∀ (n : Nat) (c : Cell) (p : Addr), S[n]? = some c → w.io[n]? = some p → CellAt g w H p c
  be : ∀ p ∈ w.be, ∃ vs, H p = some (.lst vs)
  ne : ∀ p ∈ w.be, p ∉ w.io

/-- what may have happened: mutable objects changed, new ones made, all else as it was -/
structure Adv (w : Wo) (H : Hp) (w' : Wo) (H' : Hp) : Prop where
  ext : ∀ p o, H p = some o → p ∉ w.io → H' p = some o
  pre : ∃ l, w'.io = w.io ++ l ∧ ∀ q ∈ l, H q = none
  be1 : ∀ q ∈ w.be, q ∈ w'.be
  be2 : ∀ q ∈ w'.be, q ∈ w.be ∨ H q = none
  fr : ∀ p o u, H p = some (.frz o u) → H' p = some (.frz o u)

abbrev Env := List (Option D)
structure RepE (g : Gx) (w : Wo) (H : Hp) (ρ : Env) (σ : L2.St) : Prop where
  len : ρ.length = σ.length
  at_ : ∀ (i : Nat) (d : D), ρ[i]? = some (some d) → ∃ v, σ[i]? = some (some v) ∧ RepV g w H d v

section
variable {g : Gx} {w w' w1 w2 : Wo} {H H' H1 H2 : Hp} {S S' : Store} {d : D} {v : V} {p : Addr}

theorem RepS.cell (h : RepS g w S H) {n : Nat} (e : w.io[n]? = some p) : ∃ c, S[n]? = some c ∧ CellAt g w H p c := by
  have hn : n < S.length := by
    rw [← h.len]
    exact (List.getElem?_eq_some_iff.mp e).1
  exact ⟨S[n], by simp [hn], h.at_ n _ p (by simp [hn]) e⟩
theorem CellAt.tracked' {c : Cell} (h : CellAt g w H p c) : (∃ vs, H p = some (.lst vs)) ∨ (∃ vs, H p = some (.dK vs)) ∨ (∃ C dx vs, H p = some (.ins C dx vs)) ∨ (∃ o vs, H p = some (.frz o (.dK vs))) := by
  cases c with
  | lst xs => obtain ⟨vs, e, _⟩ := h; exact .inl ⟨_, e⟩
  | dct kvs => obtain ⟨vs, e, _⟩ := h; exact .inr (.inl ⟨_, e⟩)
  | ins c fs => obtain ⟨C, dx, vs, _, e, _⟩ := h; exact .inr (.inr (.inl ⟨_, _, _, e⟩))
  | lck kvs => obtain ⟨o, vs, e, _⟩ := h; exact .inr (.inr (.inr ⟨_, _, e⟩))
theorem RepS.mem (h : RepS g w S H) (hp : p ∈ w.io) : (∃ vs, H p = some (.lst vs)) ∨ (∃ vs, H p = some (.dK vs)) ∨ (∃ C dx vs, H p = some (.ins C dx vs)) ∨ (∃ o vs, H p = some (.frz o (.dK vs))) := by
  obtain ⟨n, hn, e⟩ := List.getElem_of_mem hp
  obtain ⟨c, _, hc⟩ := h.cell (n := n) (p := p) (by rw [List.getElem?_eq_getElem hn, e])
  exact hc.tracked'
theorem RepS.tracked (h : RepS g w S H) (hp : p ∈ w.io) : H p ≠ none := by
  intro z
  rcases h.mem hp with ⟨_, e⟩ | ⟨_, e⟩ | ⟨_, _, _, e⟩ | ⟨_, _, e⟩ <;> rw [z] at e <;> cases e
theorem RepS.notTup (h : RepS g w S H) {xs : List V} (e : H p = some (.tup xs)) : p ∉ w.io := by
  intro hp
  rcases h.mem hp with ⟨_, e'⟩ | ⟨_, e'⟩ | ⟨_, _, _, e'⟩ | ⟨_, _, e'⟩ <;> rw [e] at e' <;> cases e'
theorem RepS.notFrz (h : RepS g w S H) {o : Obj} {xs : List V} (e : H p = some (.frz o (.tup xs))) : p ∉ w.io := by
  intro hp
  rcases h.mem hp with ⟨_, e'⟩ | ⟨_, e'⟩ | ⟨_, _, _, e'⟩ | ⟨_, _, e'⟩ <;> rw [e] at e' <;> cases e'
theorem RepS.notOwn (h : RepS g w S H) {a : Addr} (e : H p = some (.own a)) : p ∉ w.io := by
  intro hp
  rcases h.mem hp with ⟨_, e'⟩ | ⟨_, e'⟩ | ⟨_, _, _, e'⟩ | ⟨_, _, e'⟩ <;> rw [e] at e' <;> cases e'

theorem Adv.refl : Adv w H w H := ⟨fun _ _ e _ => e, ⟨[], by simp, by simp⟩, fun _ h => h, fun _ h => .inl h, fun _ _ _ e => e⟩
theorem Adv.back (a : Adv w H w1 H1) (h1 : RepS g w1 S H1) {q : Addr} (z : H1 q = none) : H q = none := by
  obtain ⟨l, el, hl⟩ := a.pre
  cases e : H q with
  | none => rfl
  | some o =>
    exfalso
    by_cases hh : q ∈ w.io
    · exact h1.tracked (by rw [el]; exact List.mem_append_left _ hh) z
    · rw [a.ext q o e hh] at z; cases z
theorem Adv.trans (a : Adv w H w1 H1) (h1 : RepS g w1 S H1) (b : Adv w1 H1 w2 H2) : Adv w H w2 H2 := by
  obtain ⟨l, el, hl⟩ := a.pre
  obtain ⟨m, em, hm⟩ := b.pre
  refine ⟨fun p o e hp => ?_, ⟨l ++ m, by rw [em, el, List.append_assoc], fun q hq => ?_⟩, fun q hq => b.be1 q (a.be1 q hq), fun q hq => ?_, fun p o u e => b.fr p o u (a.fr p o u e)⟩
  · refine b.ext p o (a.ext p o e hp) ?_
    rw [el]
    intro hh
    rcases List.mem_append.mp hh with hh | hh
    · exact hp hh
    · have := hl p hh
      rw [e] at this; cases this
  · rcases List.mem_append.mp hq with hq | hq
    · exact hl q hq
    · exact a.back h1 (hm q hq)
  · rcases b.be2 q hq with h | h
    · exact a.be2 q h
    · exact .inr (a.back h1 h)
theorem Adv.io (a : Adv w H w' H') {n : Nat} (e : w.io[n]? = some p) : w'.io[n]? = some p := by
  obtain ⟨l, el, _⟩ := a.pre
  rw [el, List.getElem?_append_left (List.getElem?_eq_some_iff.mp e).1]
  exact e
/-- a frozen thing's place stays out -/
theorem Adv.no (a : Adv w H w' H') {o : HO} (e : H p = some o) (hp : w.no p) : w'.no p := by
  obtain ⟨l, el, hl⟩ := a.pre
  have h2 : p ∉ w'.be := fun h => by
    rcases a.be2 p h with h | h
    · exact hp.2 h
    · rw [e] at h; cases h
  refine ⟨fun h => ?_, h2⟩
  rw [el] at h
  rcases List.mem_append.mp h with h | h
  · exact hp.1 h
  · have := hl p h
    rw [e] at this; cases this
theorem Adv.rd (a : Adv w H w' H') (h : RepS g w S H) {u : HO} (hp : p ∉ w.io) (r : Rd H p u) : Rd H' p u := by
  rcases r with e | ⟨o, e⟩
  · exact .inl (a.ext p _ e hp)
  · exact .inr ⟨o, a.ext p _ e hp⟩
theorem Adv.sqT (a : Adv w H w' H') (h : RepS g w S H) {vs : List V} (e : SqT g.K H p vs) : SqT g.K H' p vs := by
  rcases e with (e | ⟨o, e⟩) | e
  · exact .inl (.inl (a.ext p _ e (h.notTup e)))
  · exact .inl (.inr ⟨o, a.ext p _ e (h.notFrz e)⟩)
  · exact .inr e
theorem Adv.sqL (a : Adv w H w' H') {vs : List V} (e : SqL g.K H p vs) (hp : p ∉ w.io) : SqL g.K H' p vs := by
  rcases e with (e | ⟨o, e⟩) | e
  · exact .inl (.inl (a.ext p _ e hp))
  · exact .inl (.inr ⟨o, a.ext p _ e hp⟩)
  · exact .inr e

/-! ### what is represented stays so -/
mutual
theorem RepV.adv (a : Adv w H w' H') (h : RepS g w S H) : ∀ (d : D) (v : V), RepV g w H d v → RepV g w' H' d v
  | .non, _, r => by simpa [RepV] using r
  | .bl _, _, r => by simpa [RepV] using r
  | .int _, _, r => by simpa [RepV] using r
  | .str _, _, r => by simpa [RepV] using r
  | .tup xs, v, r => by
    simp only [RepV] at r ⊢
    obtain ⟨p, vs, e, q, rs⟩ := r
    exact ⟨p, vs, e, a.sqT h q, RepVs.adv a h xs vs rs⟩
  | .lst xs, v, r => by
    simp only [RepV] at r ⊢
    obtain ⟨p, vs, e, q, n, rs⟩ := r
    exact ⟨p, vs, e, a.ext p _ q n.1, a.no q n, RepVs.adv a h xs vs rs⟩
  | .scr ns, v, r => by
    simp only [RepV] at r ⊢
    obtain ⟨p, e, q⟩ := r
    refine ⟨p, e, ?_⟩
    rcases q with ⟨q, n⟩ | q
    · refine .inl ⟨a.rd h n.1 q, ?_⟩
      rcases q with q | ⟨o, q⟩ <;> exact a.no q n
    · exact .inr q
  | .obj c fs, v, r => by
    simp only [RepV] at r ⊢
    obtain ⟨p, C, dx, vs, e, hc, q, n, rs⟩ := r
    exact ⟨p, C, dx, vs, e, hc, a.ext p _ q n.1, a.no q n, RepFs.adv a h fs vs rs⟩
  | .loc n, v, r => by
    simp only [RepV] at r ⊢
    obtain ⟨p, q, e⟩ := r
    exact ⟨p, a.io q, e⟩
theorem RepVs.adv (a : Adv w H w' H') (h : RepS g w S H) : ∀ (ds : List D) (vs : List V), RepVs g w H ds vs → RepVs g w' H' ds vs
  | [], _, r => by simpa [RepVs] using r
  | d :: ds, vs, r => by
    simp only [RepVs] at r ⊢
    obtain ⟨v, t, e, r1, r2⟩ := r
    exact ⟨v, t, e, RepV.adv a h d v r1, RepVs.adv a h ds t r2⟩
theorem RepFs.adv (a : Adv w H w' H') (h : RepS g w S H) : ∀ (ds : List (Str × D)) (vs : List (Str × V)), RepFs g w H ds vs → RepFs g w' H' ds vs
  | [], _, r => by simpa [RepFs] using r
  | (x, d) :: ds, vs, r => by
    simp only [RepFs] at r ⊢
    obtain ⟨v, t, e, r1, r2⟩ := r
    exact ⟨v, t, e, RepV.adv a h d v r1, RepFs.adv a h ds t r2⟩
end
theorem RepKs.adv (a : Adv w H w' H') (h : RepS g w S H) : ∀ (ds : List (Key × D)) (vs : List (Key × V)), RepKs g w H ds vs → RepKs g w' H' ds vs
  | [], _, r => by simpa [RepKs] using r
  | (x, d) :: ds, vs, r => by
    simp only [RepKs] at r ⊢
    obtain ⟨v, t, e, r1, r2⟩ := r
    exact ⟨v, t, e, RepV.adv a h d v r1, RepKs.adv a h ds t r2⟩
theorem RepE.adv {ρ : Env} {σ : L2.St} (r : RepE g w H ρ σ) (a : Adv w H w' H') (h : RepS g w S H) : RepE g w' H' ρ σ :=
  ⟨r.len, fun i d e => let ⟨v, e1, e2⟩ := r.at_ i d e; ⟨v, e1, RepV.adv a h d v e2⟩⟩

/-! ### bans given up or turned into places -/
mutual
theorem RepV.wo (hn : ∀ q, w.no q → w'.no q) (hi : ∀ (n : Nat) p, w.io[n]? = some p → w'.io[n]? = some p) : ∀ (d : D) (v : V), RepV g w H d v → RepV g w' H d v
  | .non, _, r => by simpa [RepV] using r
  | .bl _, _, r => by simpa [RepV] using r
  | .int _, _, r => by simpa [RepV] using r
  | .str _, _, r => by simpa [RepV] using r
  | .tup xs, v, r => by
    simp only [RepV] at r ⊢
    obtain ⟨p, vs, e, q, rs⟩ := r
    exact ⟨p, vs, e, q, RepVs.wo hn hi xs vs rs⟩
  | .lst xs, v, r => by
    simp only [RepV] at r ⊢
    obtain ⟨p, vs, e, q, n, rs⟩ := r
    exact ⟨p, vs, e, q, hn p n, RepVs.wo hn hi xs vs rs⟩
  | .scr ns, v, r => by
    simp only [RepV] at r ⊢
    obtain ⟨p, e, q⟩ := r
    refine ⟨p, e, ?_⟩
    rcases q with ⟨q, n⟩ | q
    · exact .inl ⟨q, hn p n⟩
    · exact .inr q
  | .obj c fs, v, r => by
    simp only [RepV] at r ⊢
    obtain ⟨p, C, dx, vs, e, hc, q, n, rs⟩ := r
    exact ⟨p, C, dx, vs, e, hc, q, hn p n, RepFs.wo hn hi fs vs rs⟩
  | .loc n, v, r => by
    simp only [RepV] at r ⊢
    obtain ⟨p, q, e⟩ := r
    exact ⟨p, hi n p q, e⟩
theorem RepVs.wo (hn : ∀ q, w.no q → w'.no q) (hi : ∀ (n : Nat) p, w.io[n]? = some p → w'.io[n]? = some p) : ∀ (ds : List D) (vs : List V), RepVs g w H ds vs → RepVs g w' H ds vs
  | [], _, r => by simpa [RepVs] using r
  | d :: ds, vs, r => by
    simp only [RepVs] at r ⊢
    obtain ⟨v, t, e, r1, r2⟩ := r
    exact ⟨v, t, e, RepV.wo hn hi d v r1, RepVs.wo hn hi ds t r2⟩
theorem RepFs.wo (hn : ∀ q, w.no q → w'.no q) (hi : ∀ (n : Nat) p, w.io[n]? = some p → w'.io[n]? = some p) : ∀ (ds : List (Str × D)) (vs : List (Str × V)), RepFs g w H ds vs → RepFs g w' H ds vs
  | [], _, r => by simpa [RepFs] using r
  | (x, d) :: ds, vs, r => by
    simp only [RepFs] at r ⊢
    obtain ⟨v, t, e, r1, r2⟩ := r
    exact ⟨v, t, e, RepV.wo hn hi d v r1, RepFs.wo hn hi ds t r2⟩
end
theorem RepKs.wo (hn : ∀ q, w.no q → w'.no q) (hi : ∀ (n : Nat) p, w.io[n]? = some p → w'.io[n]? = some p) : ∀ (ds : List (Key × D)) (vs : List (Key × V)), RepKs g w H ds vs → RepKs g w' H ds vs
  | [], _, r => by simpa [RepKs] using r
  | (x, d) :: ds, vs, r => by
    simp only [RepKs] at r ⊢
    obtain ⟨v, t, e, r1, r2⟩ := r
    exact ⟨v, t, e, RepV.wo hn hi d v r1, RepKs.wo hn hi ds t r2⟩
theorem CellAt.wo {c : Cell} (hn : ∀ q, w.no q → w'.no q) (hi : ∀ (n : Nat) p, w.io[n]? = some p → w'.io[n]? = some p) (r : CellAt g w H p c) : CellAt g w' H p c := by
  cases c with
  | lst xs => obtain ⟨vs, q, rs⟩ := r; exact ⟨vs, q, RepVs.wo hn hi _ _ rs⟩
  | dct kvs => obtain ⟨vs, q, rs⟩ := r; exact ⟨vs, q, RepKs.wo hn hi _ _ rs⟩
  | ins c fs => obtain ⟨C, dx, vs, hc, q, rs⟩ := r; exact ⟨C, dx, vs, hc, q, RepFs.wo hn hi _ _ rs⟩
  | lck kvs => obtain ⟨o, vs, q, rs⟩ := r; exact ⟨o, vs, q, RepKs.wo hn hi _ _ rs⟩
theorem RepE.wo {ρ : Env} {σ : L2.St} (hn : ∀ q, w.no q → w'.no q) (hi : ∀ (n : Nat) p, w.io[n]? = some p → w'.io[n]? = some p) (r : RepE g w H ρ σ) : RepE g w' H ρ σ :=
  ⟨r.len, fun i d e => let ⟨v, e1, e2⟩ := r.at_ i d e; ⟨v, e1, RepV.wo hn hi d v e2⟩⟩
end
end DZ

/-! DzB: the lifted judgements; names, constants, operators, tests, displays, blocks. -/
namespace DZ
open PySem PySem.Spec PyProof.Rows L2

abbrev EF := Env → Store → Option (D × Store)
abbrev AF := Env → Store → Option (List D × Store)
abbrev TF := Env → Store → Option (Bool × Store)
inductive Fl where
  | nx | bk | ct | rt (d : D)
abbrev SF := Env → Store → Option (Fl × Env × Store)
abbrev GF := D → Env → Store → Option (Env × Store)
abbrev OF := D → D → Store → Option (D × Store)
/-- a def: its arguments, the store -/
abbrev FF := List D → Store → Option (D × Store)

/-! ### what is wanted -/
def KV1 (g : Gx) (w : Wo) (H : Hp) (d : D) (S' : Store) (Q : VK) : Prop := ∀ w' H' v, Adv w H w' H' → RepS g w' S' H' → RepV g w' H' d v → Q v H'
def KT1 (g : Gx) (w : Wo) (H : Hp) (b : Bool) (S' : Store) (Q : Bool → Hp → Prop) : Prop := ∀ w' H', Adv w H w' H' → RepS g w' S' H' → Q b H'
def KA1 (g : Gx) (w : Wo) (H : Hp) (ds : List D) (S' : Store) (Q : List V → Hp → Prop) : Prop := ∀ w' H' vs, Adv w H w' H' → RepS g w' S' H' → RepVs g w' H' ds vs → Q vs H'
def KG1 (g : Gx) (w : Wo) (H : Hp) (ρ' : Env) (S' : Store) (Q : L2.St → Hp → Prop) : Prop := ∀ w' σ' H', Adv w H w' H' → RepE g w' H' ρ' σ' → RepS g w' S' H' → Q σ' H'
def KS1 (g : Gx) (w : Wo) (H : Hp) (r : Fl × Env × Store) (D : Ends) : Prop := match r.1 with
  | .nx => KG1 g w H r.2.1 r.2.2 D.nx
  | .bk => KG1 g w H r.2.1 r.2.2 D.bk
  | .ct => KG1 g w H r.2.1 r.2.2 D.ct
  | .rt d => KV1 g w H d r.2.2 D.rt

def lE (g : Gx) (f : EF) : TE := fun σ H Q => ∃ w ρ S d S', RepE g w H ρ σ ∧ RepS g w S H ∧ f ρ S = some (d, S') ∧ KV1 g w H d S' Q
def lT (g : Gx) (f : TF) : TT := fun σ H Q => ∃ w ρ S b S', RepE g w H ρ σ ∧ RepS g w S H ∧ f ρ S = some (b, S') ∧ KT1 g w H b S' Q
def lA (g : Gx) (f : AF) : TA := fun σ H Q => ∃ w ρ S ds S', RepE g w H ρ σ ∧ RepS g w S H ∧ f ρ S = some (ds, S') ∧ KA1 g w H ds S' Q
def lS (g : Gx) (f : SF) : TS := fun D σ H => ∃ w ρ S r, RepE g w H ρ σ ∧ RepS g w S H ∧ f ρ S = some r ∧ KS1 g w H r D
def lG (g : Gx) (f : GF) : TG := fun v σ H Q => ∃ w ρ S d ρ' S', RepE g w H ρ σ ∧ RepS g w S H ∧ RepV g w H d v ∧ f d ρ S = some (ρ', S') ∧ KG1 g w H ρ' S' Q
def lGs (g : Gx) (f : List D → Env → Store → Option (Env × Store)) : TGs := fun vs σ H Q => ∃ w ρ S ds ρ' S', RepE g w H ρ σ ∧ RepS g w S H ∧ RepVs g w H ds vs ∧ f ds ρ S = some (ρ', S') ∧ KG1 g w H ρ' S' Q
def lOp (g : Gx) (f : OF) : R2 := fun x y H Q => ∃ w S a b d S', RepS g w S H ∧ RepV g w H a x ∧ RepV g w H b y ∧ f a b S = some (d, S') ∧ KV1 g w H d S' Q
/-- a call by values -/
def lC (g : Gx) (f : FF) : List V → Hp → VK → Prop := fun vs H Q => ∃ w S ds d S', RepS g w S H ∧ RepVs g w H ds vs ∧ f ds S = some (d, S') ∧ KV1 g w H d S' Q
/-- a method of a built-in type, by values -/
def lM (g : Gx) (f : D → FF) : V → List V → Hp → VK → Prop := fun x vs H Q => ∃ w S a ds d S', RepS g w S H ∧ RepV g w H a x ∧ RepVs g w H ds vs ∧ f a ds S = some (d, S') ∧ KV1 g w H d S' Q

section
variable {g : Gx} {w w' w1 w2 : Wo} {H H' H1 H2 : Hp} {S S' S1 : Store} {d : D} {ds : List D} {b : Bool} {ρ' : Env} {r : Fl × Env × Store}
theorem KV1.from {Q : VK} (k : KV1 g w H d S' Q) (a : Adv w H w1 H1) (s : RepS g w1 S1 H1) : KV1 g w1 H1 d S' Q := fun w' H' v a' s' r => k w' H' v (a.trans s a') s' r
theorem KT1.from {Q : Bool → Hp → Prop} (k : KT1 g w H b S' Q) (a : Adv w H w1 H1) (s : RepS g w1 S1 H1) : KT1 g w1 H1 b S' Q := fun w' H' a' s' => k w' H' (a.trans s a') s'
theorem KA1.from {Q : List V → Hp → Prop} (k : KA1 g w H ds S' Q) (a : Adv w H w1 H1) (s : RepS g w1 S1 H1) : KA1 g w1 H1 ds S' Q := fun w' H' v a' s' r => k w' H' v (a.trans s a') s' r
theorem KG1.from {Q : L2.St → Hp → Prop} (k : KG1 g w H ρ' S' Q) (a : Adv w H w1 H1) (s : RepS g w1 S1 H1) : KG1 g w1 H1 ρ' S' Q := fun w' σ' H' a' e' s' => k w' σ' H' (a.trans s a') e' s'
theorem KS1.from {D : Ends} (k : KS1 g w H r D) (a : Adv w H w1 H1) (s : RepS g w1 S1 H1) : KS1 g w1 H1 r D := by
  obtain ⟨f, ρ', S'⟩ := r
  cases f with
  | nx => exact KG1.from (show KG1 g w H ρ' S' D.nx from k) a s
  | bk => exact KG1.from (show KG1 g w H ρ' S' D.bk from k) a s
  | ct => exact KG1.from (show KG1 g w H ρ' S' D.ct from k) a s
  | rt d => exact KV1.from (show KV1 g w H d S' D.rt from k) a s
theorem KV1.now {Q : VK} {v : V} (k : KV1 g w H d S Q) (s : RepS g w S H) (r : RepV g w H d v) : Q v H := k w H v .refl s r
theorem KT1.now {Q : Bool → Hp → Prop} (k : KT1 g w H b S Q) (s : RepS g w S H) : Q b H := k w H .refl s
theorem KA1.now {Q : List V → Hp → Prop} {vs : List V} (k : KA1 g w H ds S Q) (s : RepS g w S H) (r : RepVs g w H ds vs) : Q vs H := k w H vs .refl s r
theorem KG1.now {Q : L2.St → Hp → Prop} {σ : L2.St} (k : KG1 g w H ρ' S Q) (s : RepS g w S H) (e : RepE g w H ρ' σ) : Q σ H := k w σ H .refl e s
end

/-! ### the judgements -/
abbrev Cx.g (X : Cx) (cl : Str → Option Addr) : Gx := ⟨X.K, cl⟩
abbrev PD (X : Cx) (cl : Str → Option Addr) (e : Expr) (f : EF) : Prop := PE X e (lE (Cx.g X cl) f)
abbrev TD (X : Cx) (cl : Str → Option Addr) (e : Expr) (f : TF) : Prop := PT X e (lT (Cx.g X cl) f)
abbrev WD (X : Cx) (cl : Str → Option Addr) (e : Expr) (f : TF) : Prop := PW X e (lT (Cx.g X cl) f)
abbrev AD (X : Cx) (cl : Str → Option Addr) (es : List Expr) (f : AF) : Prop := PA X es (lA (Cx.g X cl) f)
abbrev SD (X : Cx) (cl : Str → Option Addr) (st : Stmt) (f : SF) : Prop := PS X st (lS (Cx.g X cl) f)
abbrev SsD (X : Cx) (cl : Str → Option Addr) (st : List Stmt) (f : SF) : Prop := PSs X st (lS (Cx.g X cl) f)
abbrev GD (X : Cx) (cl : Str → Option Addr) (e : Expr) (f : GF) : Prop := PG X e (lG (Cx.g X cl) f)
abbrev GsD (X : Cx) (cl : Str → Option Addr) (es : List Expr) (f : List D → Env → Store → Option (Env × Store)) : Prop := PGs X es (lGs (Cx.g X cl) f)

section
variable {X : Cx}
theorem PE.imp {e : Expr} {t t' : TE} (h : PE X e t) (i : ∀ σ H Q, t' σ H Q → t σ H Q) : PE X e t' := ⟨fun pins s σ H Q I q => h.run pins s σ H Q I (i σ H Q q)⟩
theorem PT.imp {e : Expr} {t t' : TT} (h : PT X e t) (i : ∀ σ H Q, t' σ H Q → t σ H Q) : PT X e t' := ⟨fun pins s σ H Q I q => h.run pins s σ H Q I (i σ H Q q)⟩
theorem PW.imp {e : Expr} {t t' : TT} (h : PW X e t) (i : ∀ σ H Q, t' σ H Q → t σ H Q) : PW X e t' := ⟨fun wh pins s σ H Q I q => h.run wh pins s σ H Q I (i σ H Q q)⟩
theorem PA.imp {e : List Expr} {t t' : TA} (h : PA X e t) (i : ∀ σ H Q, t' σ H Q → t σ H Q) : PA X e t' := ⟨fun pos pins s σ H Q I q => h.run pos pins s σ H Q I (i σ H Q q)⟩
theorem PS.imp {e : Stmt} {t t' : TS} (h : PS X e t) (i : ∀ D σ H, t' D σ H → t D σ H) : PS X e t' := ⟨fun pins s σ H D I q => h.run pins s σ H D I (i D σ H q)⟩
theorem PSs.imp {e : List Stmt} {t t' : TS} (h : PSs X e t) (i : ∀ D σ H, t' D σ H → t D σ H) : PSs X e t' := ⟨fun pins s σ H D I q => h.run pins s σ H D I (i D σ H q)⟩
theorem PG.imp {e : Expr} {t t' : TG} (h : PG X e t) (i : ∀ v σ H Q, t' v σ H Q → t v σ H Q) : PG X e t' := ⟨fun pins s σ H v u Q I r q => h.run pins s σ H v u Q I r (i v σ H Q q)⟩
theorem PGs.imp {e : List Expr} {t t' : TGs} (h : PGs X e t) (i : ∀ v σ H Q, t' v σ H Q → t v σ H Q) : PGs X e t' := ⟨fun pins s σ H v u Q I r q => h.run pins s σ H v u Q I r (i v σ H Q q)⟩
theorem OpR.imp {f : Value → Value → Sem Value} {t t' : R2} (h : OpR X f t) (i : ∀ x y H Q, t' x y H Q → t x y H Q) : OpR X f t' := fun pins s σ H x y v u Q I rx ry q => h pins s σ H x y v u Q I rx ry (i x y H Q q)
end
theorem obind {α β : Type} {o : Option α} {f : α → Option β} {r : β} (h : o.bind f = some r) : ∃ a, o = some a ∧ f a = some r := by
  cases o with
  | none => cases h
  | some a => exact ⟨a, rfl, h⟩
end DZ

/-! DzC: the combinators and their rules: names, constants, operators, tests, displays, blocks. -/
namespace DZ
open PySem PySem.Spec PyProof.Rows L2

/-! ### expressions -/
def eVar (i : Nat) : EF := fun ρ S => match ρ[i]? with
  | some (some d) => some (d, S)
  | _ => none
def eC (d : D) : EF := fun _ S => some (d, S)
def eBin (F : OF) (fa fb : EF) : EF := fun ρ S => (fa ρ S).bind fun r => (fb ρ r.2).bind fun q => F r.1 q.1 q.2
def eUn (F : D → Store → Option (D × Store)) (fa : EF) : EF := fun ρ S => (fa ρ S).bind fun r => F r.1 r.2
/-- a < b < c -/
def eChain (F G : OF) (fa fb fc : EF) : EF := fun ρ S => (fa ρ S).bind fun r => (fb ρ r.2).bind fun q => (F r.1 q.1 q.2).bind fun z => match z.1 with
  | .bl true => (fc ρ z.2).bind fun y => G q.1 y.1 y.2
  | .bl false => some (.bl false, z.2)
  | _ => none
/-- x and y as values, x a bool -/
def eAnd (fa fb : EF) : EF := fun ρ S => (fa ρ S).bind fun r => match r.1 with
  | .bl true => fb ρ r.2
  | .bl false => some (.bl false, r.2)
  | _ => none
def eOr (fa fb : EF) : EF := fun ρ S => (fa ρ S).bind fun r => match r.1 with
  | .bl false => fb ρ r.2
  | .bl true => some (.bl true, r.2)
  | _ => none
def eNot (fa : EF) : EF := fun ρ S => (fa ρ S).bind fun r => match r.1 with
  | .bl b => some (.bl (!b), r.2)
  | _ => none
def eIf (t : TF) (fa fb : EF) : EF := fun ρ S => (t ρ S).bind fun r => if r.1 = true then fa ρ r.2 else fb ρ r.2
def aNil : AF := fun _ S => some ([], S)
def aCons (fa : EF) (fr : AF) : AF := fun ρ S => (fa ρ S).bind fun r => (fr ρ r.2).bind fun q => some (r.1 :: q.1, q.2)
/-- a tuple's, a list's display -/
def eTup (fa : AF) : EF := fun ρ S => (fa ρ S).bind fun r => if r.1.length ≤ 1000000 then some (.tup r.1, r.2) else none
def eCall (F : FF) (fa : AF) : EF := fun ρ S => (fa ρ S).bind fun r => F r.1 r.2
def eMth (F : D → FF) (fo : EF) (fa : AF) : EF := fun ρ S => (fo ρ S).bind fun r => (fa ρ r.2).bind fun q => F r.1 q.1 q.2

/-! ### tests -/
def tOf (f : EF) : TF := fun ρ S => (f ρ S).bind fun r => match r.1 with
  | .bl b => some (b, r.2)
  | _ => none
def tAndF (t u : TF) : TF := fun ρ S => (t ρ S).bind fun r => if r.1 = true then u ρ r.2 else some (false, r.2)
def tOrF (t u : TF) : TF := fun ρ S => (t ρ S).bind fun r => if r.1 = true then some (true, r.2) else u ρ r.2
def tNotF (t : TF) : TF := fun ρ S => (t ρ S).bind fun r => some (!r.1, r.2)

/-! ### statements -/
def sNil : SF := fun ρ S => some (.nx, ρ, S)
def sSeq (f h : SF) : SF := fun ρ S => (f ρ S).bind fun r => match r.1 with
  | .nx => h r.2.1 r.2.2
  | _ => some r
def sBk : SF := fun ρ S => some (.bk, ρ, S)
def sCt : SF := fun ρ S => some (.ct, ρ, S)
def sEx (f : EF) : SF := fun ρ S => (f ρ S).bind fun r => some (.nx, ρ, r.2)
def sRet (f : EF) : SF := fun ρ S => (f ρ S).bind fun r => some (.rt r.1, ρ, r.2)
def sIf (t : TF) (f h : SF) : SF := fun ρ S => (t ρ S).bind fun r => if r.1 = true then f ρ r.2 else h ρ r.2
def sNever : SF := fun _ _ => none
def sAsg (f : EF) (t : GF) : SF := fun ρ S => (f ρ S).bind fun r => (t r.1 ρ r.2).bind fun q => some (.nx, q.1, q.2)
def gVar (i : Nat) : GF := fun d ρ S => some (ρ.set i (some d), S)
def gNilF : List D → Env → Store → Option (Env × Store) := fun ds ρ S => match ds with
  | [] => some (ρ, S)
  | _ => none
def gConsF (t : GF) (u : List D → Env → Store → Option (Env × Store)) : List D → Env → Store → Option (Env × Store) := fun ds ρ S => match ds with
  | [] => none
  | d :: ds => (t d ρ S).bind fun r => u ds r.1 r.2
def gTupF (n : Nat) (u : List D → Env → Store → Option (Env × Store)) : GF := fun d ρ S => match d with
  | .tup ds => if ds.length = n then u ds ρ S else none
  | _ => none

theorem million : (1000000 : Nat) ≤ sizeLine := by decide
theorem RepVs.length {g : Gx} {w : Wo} {H : Hp} : ∀ {ds : List D} {vs : List V}, RepVs g w H ds vs → ds.length = vs.length
  | [], vs, h => by simp only [RepVs] at h; subst h; rfl
  | d :: ds, vs, h => by
    simp only [RepVs] at h
    obtain ⟨v, r, rfl, _, h⟩ := h
    simp [RepVs.length h]
/-- an object laid at a free place -/
theorem Adv.laid {w : Wo} {H : Hp} {p : Addr} {o : HO} (hp : H p = none) : Adv w H w (upd H p o) :=
  ⟨fun q u e _ => by rw [upd_ne (ne_of_none e hp)]; exact e, ⟨[], by simp, by simp⟩, fun _ h => h, fun _ h => .inl h, fun q b u e => by rw [upd_ne (ne_of_none e hp)]; exact e⟩
theorem CellAt.adv {g : Gx} {w w' : Wo} {H H' : Hp} {S : Store} {p : Addr} {c : Cell} (a : Adv w H w' H') (h : RepS g w S H) (e : H' p = H p) (r : CellAt g w H p c) : CellAt g w' H' p c := by
  cases c with
  | lst xs => obtain ⟨vs, q, rs⟩ := r; exact ⟨vs, e.trans q, RepVs.adv a h _ _ rs⟩
  | dct kvs => obtain ⟨vs, q, rs⟩ := r; exact ⟨vs, e.trans q, RepKs.adv a h _ _ rs⟩
  | ins c fs => obtain ⟨C, dx, vs, hc, q, rs⟩ := r; exact ⟨C, dx, vs, hc, e.trans q, RepFs.adv a h _ _ rs⟩
  | lck kvs => obtain ⟨o, vs, q, rs⟩ := r; exact ⟨o, vs, e.trans q, RepKs.adv a h _ _ rs⟩
theorem RepS.laid {g : Gx} {w : Wo} {H : Hp} {S : Store} {p : Addr} {o : HO} (s : RepS g w S H) (hp : H p = none) : RepS g w S (upd H p o) := by
  refine ⟨s.len, s.nd, fun n c q e1 e2 => ?_, fun q hq => ?_, s.ne⟩
  · have hq : q ≠ p := by
      rintro rfl
      exact s.tracked (List.mem_of_getElem? e2) hp
    exact (s.at_ n c q e1 e2).adv (Adv.laid hp) s (upd_ne hq)
  · obtain ⟨vs, e⟩ := s.be q hq
    exact ⟨vs, by rw [upd_ne (ne_of_none e hp)]; exact e⟩

section
variable {X : Cx} {cl : Str → Option Addr}
section
variable {e a b c o : Expr} {es : List Expr} {fa fb fc fo : EF} {fr : AF} {F G : OF} {pos : Pos} {t u : TF}
theorem d_var (i : Nat) {x : Str} (hN : X.N[i]? = some x := by rfl) (hv : Vis X.env.scope x := by first | exact Or.inl rfl | exact Or.inr (Or.inl rfl) | exact Or.inr (Or.inr rfl)) (hd : (x == ("__debug__" : Str)) = false := by decide)
    (hcd : (x == ("__classdict__" : Str)) = false := by decide) : PD X cl (.Name x pos) (eVar i) := PE.imp (pe_var hN hv hd hcd) fun σ H Q h => by
  obtain ⟨w, ρ, S, d, S', hE, hS, hf, k⟩ := h
  unfold eVar at hf
  split at hf
  · rename_i d' hd'
    cases hf
    obtain ⟨v, e1, e2⟩ := hE.at_ i d hd'
    exact ⟨v, e1, k.now hS e2⟩
  · cases hf
theorem d_int {i j} : PD X cl (.Constant (.int i) j pos) (eC (.int i)) := PE.imp pe_int fun σ H Q h => by
  obtain ⟨w, ρ, S, d, S', hE, hS, hf, k⟩ := h
  cases hf
  exact k.now hS (by simp [RepV])
theorem d_bl {i j} : PD X cl (.Constant (.bool i) j pos) (eC (.bl i)) := PE.imp pe_bl fun σ H Q h => by
  obtain ⟨w, ρ, S, d, S', hE, hS, hf, k⟩ := h
  cases hf
  exact k.now hS (by simp [RepV])
theorem d_non {j} : PD X cl (.Constant .none j pos) (eC .non) := PE.imp pe_non fun σ H Q h => by
  obtain ⟨w, ρ, S, d, S', hE, hS, hf, k⟩ := h
  cases hf
  exact k.now hS (by simp [RepV])
theorem d_str {x j} : PD X cl (.Constant (.str x) j pos) (eC (.str x)) := PE.imp pe_str fun σ H Q h => by
  obtain ⟨w, ρ, S, d, S', hE, hS, hf, k⟩ := h
  cases hf
  exact k.now hS (by simp [RepV])
/-- a module's constant: an int, a text -/
theorem d_glob {x : Str} {d : D} (h : ∃ u v, X.mg x = some u ∧ RelV v u ∧ ∀ w H, RepV (Cx.g X cl) w H d v) (hg : Gl X x := by rfl) (hd : (x == ("__debug__" : Str)) = false := by decide) : PD X cl (.Name x pos) (eC d) := by
  obtain ⟨u, v, hm, r, hv⟩ := h
  refine PE.imp (pe_glob hg hm r hd) fun σ H Q h => ?_
  obtain ⟨w, ρ, S, d, S', hE, hS, hf, k⟩ := h
  cases hf
  exact k.now hS (hv w H)
theorem d_bin {op : Operator} (ho : OpR X (binaryOp op) (lOp (Cx.g X cl) F)) (ha : PD X cl a fa) (hb : PD X cl b fb) : PD X cl (.BinOp a op b pos) (eBin F fa fb) := PE.imp (pe_op ho ha hb) fun σ H Q h => by
  obtain ⟨w, ρ, S, d, S', hE, hS, hf, k⟩ := h
  obtain ⟨⟨x, S1⟩, h1, hf⟩ := obind hf
  obtain ⟨⟨y, S2⟩, h2, hf⟩ := obind hf
  refine ⟨w, ρ, S, x, S1, hE, hS, h1, fun w1 H1 v a1 s1 r1 => ⟨w1, ρ, S1, y, S2, hE.adv a1 hS, s1, h2, fun w2 H2 u a2 s2 r2 => ⟨w2, S2, x, y, d, S', s2, r1.adv a2 s1 _ _, r2, hf, ?_⟩⟩⟩
  exact (k.from a1 s1).from a2 s2
theorem d_cmp {op : CmpOp} (ho : OpR X (compareOp op) (lOp (Cx.g X cl) F)) (ha : PD X cl a fa) (hb : PD X cl b fb) (hm : behindInMarks op b = false := by first | rfl | exact nomark _) : PD X cl (.Compare a [op] [b] pos) (eBin F fa fb) := PE.imp (pe_cmpR ho ha hb hm) fun σ H Q h => by
  obtain ⟨w, ρ, S, d, S', hE, hS, hf, k⟩ := h
  obtain ⟨⟨x, S1⟩, h1, hf⟩ := obind hf
  obtain ⟨⟨y, S2⟩, h2, hf⟩ := obind hf
  refine ⟨w, ρ, S, x, S1, hE, hS, h1, fun w1 H1 v a1 s1 r1 => ⟨w1, ρ, S1, y, S2, hE.adv a1 hS, s1, h2, fun w2 H2 u a2 s2 r2 => ⟨w2, S2, x, y, d, S', s2, r1.adv a2 s1 _ _, r2, hf, ?_⟩⟩⟩
  exact (k.from a1 s1).from a2 s2
theorem d_un {op : UnaryOp} {U : D → Store → Option (D × Store)} (ho : UnR X (unaryOp op) (fun x H Q => ∃ w S a d S', RepS (Cx.g X cl) w S H ∧ RepV (Cx.g X cl) w H a x ∧ U a S = some (d, S') ∧ KV1 (Cx.g X cl) w H d S' Q)) (ha : PD X cl a fa) : PD X cl (.UnaryOp op a pos) (eUn U fa) := PE.imp (pe_un ho ha) fun σ H Q h => by
  obtain ⟨w, ρ, S, d, S', hE, hS, hf, k⟩ := h
  obtain ⟨⟨x, S1⟩, h1, hf⟩ := obind hf
  exact ⟨w, ρ, S, x, S1, hE, hS, h1, fun w1 H1 v a1 s1 r1 => ⟨w1, S1, x, d, S', s1, r1, hf, k.from a1 s1⟩⟩

/-- a chain's values: bools -/
theorem d_chain {op op' : CmpOp} (ho : OpR X (compareOp op) (lOp (Cx.g X cl) F)) (ho' : OpR X (compareOp op') (lOp (Cx.g X cl) G)) (ha : PD X cl a fa) (hb : PD X cl b fb) (hc : PD X cl c fc)
    (hm : lastMarks [op, op'] [b, c] = false := by with_unfolding_all rfl) : PD X cl (.Compare a [op, op'] [b, c] pos) (eChain F G fa fb fc) := PE.imp (pe_chain ho ho' ha hb hc hm) fun σ H Q h => by
  obtain ⟨w, ρ, S, d, S', hE, hS, hf, k⟩ := h
  obtain ⟨⟨x, S1⟩, h1, hf⟩ := obind hf
  obtain ⟨⟨y, S2⟩, h2, hf⟩ := obind hf
  obtain ⟨⟨z, S3⟩, h3, hf⟩ := obind hf
  refine ⟨w, ρ, S, x, S1, hE, hS, h1, fun w1 H1 v a1 s1 r1 => ⟨w1, ρ, S1, y, S2, hE.adv a1 hS, s1, h2, fun w2 H2 u a2 s2 r2 => ⟨w2, S2, x, y, z, S3, s2, r1.adv a2 s1 _ _, r2, h3, fun w3 H3 q a3 s3 r3 => ?_⟩⟩⟩
  cases z with
  | bl b =>
    simp only [RepV] at r3
    subst r3
    refine ⟨b, rfl, ?_⟩
    have k3 := ((k.from a1 s1).from a2 s2).from a3 s3
    cases b with
    | true =>
      simp only [if_true]
      obtain ⟨⟨y4, S4⟩, h4, hf⟩ := obind hf
      exact ⟨w3, ρ, S3, y4, S4, ((hE.adv a1 hS).adv a2 s1).adv a3 s2, s3, h4, fun w4 H4 u4 a4 s4 r4 => ⟨w4, S4, y, y4, d, S', s4, (r2.adv a3 s2 _ _).adv a4 s3 _ _, r4, hf, k3.from a4 s4⟩⟩
    | false =>
      cases hf
      simp only [Bool.false_eq_true, if_false]
      exact k3.now s3 (by simp [RepV])
  | _ => cases hf
theorem d_one {op} (h : PD X cl a fa) : PD X cl (.BoolOp op [a] pos) fa := pe_one h
theorem d_and {rest : List Expr} (ha : PD X cl a fa) (hb : PD X cl (.BoolOp .And (b :: rest) pos) fb) : PD X cl (.BoolOp .And (a :: b :: rest) pos) (eAnd fa fb) := PE.imp (pe_and ha hb) fun σ H Q h => by
  obtain ⟨w, ρ, S, d, S', hE, hS, hf, k⟩ := h
  obtain ⟨⟨x, S1⟩, h1, hf⟩ := obind hf
  refine ⟨w, ρ, S, x, S1, hE, hS, h1, fun w1 H1 v a1 s1 r1 => ?_⟩
  cases x with
  | bl z =>
    simp only [RepV] at r1
    subst r1
    refine ⟨z, rfl, ?_⟩
    cases z with
    | true =>
      simp only [if_true]
      exact ⟨w1, ρ, S1, d, S', hE.adv a1 hS, s1, hf, k.from a1 s1⟩
    | false =>
      cases hf
      simp only [Bool.false_eq_true, if_false]
      exact (k.from a1 s1).now s1 (by simp [RepV])
  | _ => cases hf
theorem d_or {rest : List Expr} (ha : PD X cl a fa) (hb : PD X cl (.BoolOp .Or (b :: rest) pos) fb) : PD X cl (.BoolOp .Or (a :: b :: rest) pos) (eOr fa fb) := PE.imp (pe_or ha hb) fun σ H Q h => by
  obtain ⟨w, ρ, S, d, S', hE, hS, hf, k⟩ := h
  obtain ⟨⟨x, S1⟩, h1, hf⟩ := obind hf
  refine ⟨w, ρ, S, x, S1, hE, hS, h1, fun w1 H1 v a1 s1 r1 => ?_⟩
  cases x with
  | bl z =>
    simp only [RepV] at r1
    subst r1
    refine ⟨z, rfl, ?_⟩
    cases z with
    | false =>
      simp only [Bool.false_eq_true, if_false]
      exact ⟨w1, ρ, S1, d, S', hE.adv a1 hS, s1, hf, k.from a1 s1⟩
    | true =>
      cases hf
      simp only [if_true]
      exact (k.from a1 s1).now s1 (by simp [RepV])
  | _ => cases hf
theorem d_not (ha : PD X cl a fa) : PD X cl (.UnaryOp .Not a pos) (eNot fa) := PE.imp (pe_not ha) fun σ H Q h => by
  obtain ⟨w, ρ, S, d, S', hE, hS, hf, k⟩ := h
  obtain ⟨⟨x, S1⟩, h1, hf⟩ := obind hf
  refine ⟨w, ρ, S, x, S1, hE, hS, h1, fun w1 H1 v a1 s1 r1 => ?_⟩
  cases x with
  | bl z =>
    cases hf
    simp only [RepV] at r1
    exact ⟨z, r1, (k.from a1 s1).now s1 (by simp [RepV])⟩
  | _ => cases hf
theorem d_if (hc : TD X cl c t) (ha : PD X cl a fa) (hb : PD X cl b fb) : PD X cl (.IfExp c a b pos) (eIf t fa fb) := PE.imp (pe_ifExp hc ha hb) fun σ H Q h => by
  obtain ⟨w, ρ, S, d, S', hE, hS, hf, k⟩ := h
  obtain ⟨⟨x, S1⟩, h1, hf⟩ := obind hf
  refine ⟨w, ρ, S, x, S1, hE, hS, h1, fun w1 H1 a1 s1 => ?_⟩
  cases x with
  | true => exact ⟨w1, ρ, S1, d, S', hE.adv a1 hS, s1, hf, k.from a1 s1⟩
  | false => exact ⟨w1, ρ, S1, d, S', hE.adv a1 hS, s1, hf, k.from a1 s1⟩
/-! ### arguments, displays, calls by values -/
theorem d_nil : AD X cl [] aNil := PA.imp pa_nil fun σ H Q h => by
  obtain ⟨w, ρ, S, d, S', hE, hS, hf, k⟩ := h
  cases hf
  exact k.now hS (by simp [RepVs])
theorem d_cons (ha : PD X cl a fa) (hr : AD X cl es fr) (hs : starEach (a :: es) X.env = (false, eval a X.env) :: starEach es X.env := by rfl) : AD X cl (a :: es) (aCons fa fr) := PA.imp (pa_cons ha hr hs) fun σ H Q h => by
  obtain ⟨w, ρ, S, d, S', hE, hS, hf, k⟩ := h
  obtain ⟨⟨x, S1⟩, h1, hf⟩ := obind hf
  obtain ⟨⟨y, S2⟩, h2, hf⟩ := obind hf
  cases hf
  refine ⟨w, ρ, S, x, S1, hE, hS, h1, fun w1 H1 v a1 s1 r1 => ⟨w1, ρ, S1, y, S2, hE.adv a1 hS, s1, h2, fun w2 H2 us a2 s2 r2 => ?_⟩⟩
  refine ((k.from a1 s1).from a2 s2).now s2 ?_
  simp only [RepVs]
  exact ⟨v, us, rfl, r1.adv a2 s1 _ _, r2⟩
theorem d_tup {x1} (h : AD X cl es fr) : PD X cl (.Tuple es x1 pos) (eTup fr) := PE.imp (pe_tup h) fun σ H Q h => by
  obtain ⟨w, ρ, S, d, S', hE, hS, hf, k⟩ := h
  obtain ⟨⟨x, S1⟩, h1, hf⟩ := obind hf
  split at hf
  · rename_i hl
    cases hf
    refine ⟨w, ρ, S, x, S1, hE, hS, h1, fun w1 H1 vs a1 s1 r1 => ⟨by rw [← r1.length]; exact Nat.le_trans hl million, fun p hp => ?_⟩⟩
    refine (k.from a1 s1) w1 _ _ (Adv.laid hp) (s1.laid hp) ?_
    simp only [RepV]
    exact ⟨p, vs, rfl, SqT.of upd_same, RepVs.adv (Adv.laid hp) s1 _ _ r1⟩
  · cases hf
/-- a built-in by its name -/
theorem d_blt {x : Str} {p : Pos} {id : String} {F : FF} (hc : CallR X (.builtin id) (lC (Cx.g X cl) F)) (hm : X.mg x = none) (ha : AD X cl (a :: es) fr) (hv : bootBuiltins x = some (.builtin id) := by decide +kernel) (hg : Gl X x := by rfl) (hn : x ≠ "__name__" := by decide) (hdb : (x == ("__debug__" : Str)) = false := by decide)
    (he : starEach (a :: es) X.env = (false, eval a X.env) :: starEach es X.env := by rfl) (hpl : (backTo pos (starEach es X.env)).any (·.1) = false := by rfl) : PD X cl (.Call (.Name x p) (a :: es) [] pos) (eCall F fr) := PE.imp (pe_callB hc hg hm hv ha hn hdb he hpl) fun σ H Q h => by
  obtain ⟨w, ρ, S, d, S', hE, hS, hf, k⟩ := h
  obtain ⟨⟨x, S1⟩, h1, hf⟩ := obind hf
  exact ⟨w, ρ, S, x, S1, hE, hS, h1, fun w1 H1 vs a1 s1 r1 => ⟨w1, S1, x, d, S', s1, r1, hf, k.from a1 s1⟩⟩
theorem d_bty {x : Str} {p : Pos} {T : String} {F : FF} (hc : CallR X (.type T) (lC (Cx.g X cl) F)) (hm : X.mg x = none) (ha : AD X cl (a :: es) fr) (hv : bootBuiltins x = some (.type T) := by decide +kernel) (hg : Gl X x := by rfl) (hn : x ≠ "__name__" := by decide) (hdb : (x == ("__debug__" : Str)) = false := by decide)
    (he : starEach (a :: es) X.env = (false, eval a X.env) :: starEach es X.env := by rfl) (hpl : (backTo pos (starEach es X.env)).any (·.1) = false := by rfl) : PD X cl (.Call (.Name x p) (a :: es) [] pos) (eCall F fr) := PE.imp (pe_callTy hc hg hm hv ha hn hdb he hpl) fun σ H Q h => by
  obtain ⟨w, ρ, S, d, S', hE, hS, hf, k⟩ := h
  obtain ⟨⟨x, S1⟩, h1, hf⟩ := obind hf
  exact ⟨w, ρ, S, x, S1, hE, hS, h1, fun w1 H1 vs a1 s1 r1 => ⟨w1, S1, x, d, S', s1, r1, hf, k.from a1 s1⟩⟩
/-- a subscript by values -/
theorem d_ix (hr : IxR X (lOp (Cx.g X cl) F)) (ha : PD X cl a fa) (hb : PD X cl b fb) (hs : PlainIx b := by exact fun _ _ => rfl) : PD X cl (.Subscript a b pos) (eBin F fa fb) := PE.imp (pe_ix hr ha hb hs) fun σ H Q h => by
  obtain ⟨w, ρ, S, d, S', hE, hS, hf, k⟩ := h
  obtain ⟨⟨x, S1⟩, h1, hf⟩ := obind hf
  obtain ⟨⟨y, S2⟩, h2, hf⟩ := obind hf
  refine ⟨w, ρ, S, x, S1, hE, hS, h1, fun w1 H1 v a1 s1 r1 => ⟨w1, ρ, S1, y, S2, hE.adv a1 hS, s1, h2, fun w2 H2 u a2 s2 r2 => ⟨w2, S2, x, y, d, S', s2, r1.adv a2 s1 _ _, r2, hf, ?_⟩⟩⟩
  exact (k.from a1 s1).from a2 s2
/-! ### tests -/
theorem TD.of {σ : L2.St} {H : Hp} {Q : Bool → Hp → Prop} {g : Gx} (h : lT g (tOf fa) σ H Q) : lE g fa σ H fun x H1 => ∃ c, x = .bl c ∧ Q c H1 := by
  obtain ⟨w, ρ, S, d, S', hE, hS, hf, k⟩ := h
  obtain ⟨⟨x, S1⟩, h1, hf⟩ := obind hf
  cases x with
  | bl z =>
    cases hf
    refine ⟨w, ρ, S, _, S1, hE, hS, h1, fun w1 H1 v a1 s1 r1 => ⟨_, by simpa [RepV] using r1, k w1 H1 a1 s1⟩⟩
  | _ => cases hf
/-- an expression whose value is a bool -/
theorem t_val (h : PD X cl a fa) (he : ∀ whole, isTrue a X.env whole = (do let v ← whole; standAt a.pos; holding [v] (truthy v)) := by intro _; rfl) : TD X cl a (tOf fa) := PT.imp (pt_val h he) fun σ H Q h => TD.of h
theorem t_cmp {op : CmpOp} (ho : OpR X (compareOp op) (lOp (Cx.g X cl) F)) (ha : PD X cl a fa) (hb : PD X cl b fb) (hm : behindInMarks op b = false := by first | rfl | exact nomark _) : TD X cl (.Compare a [op] [b] pos) (tOf (eBin F fa fb)) := PT.imp (pt_cmpR ho ha hb hm) fun σ H Q h => by
  obtain ⟨w, ρ, S, d, S', hE, hS, hf, k⟩ := TD.of h
  obtain ⟨⟨x, S1⟩, h1, hf⟩ := obind hf
  obtain ⟨⟨y, S2⟩, h2, hf⟩ := obind hf
  refine ⟨w, ρ, S, x, S1, hE, hS, h1, fun w1 H1 v a1 s1 r1 => ⟨w1, ρ, S1, y, S2, hE.adv a1 hS, s1, h2, fun w2 H2 u a2 s2 r2 => ⟨w2, S2, x, y, d, S', s2, r1.adv a2 s1 _ _, r2, hf, ?_⟩⟩⟩
  exact (k.from a1 s1).from a2 s2
theorem t_and1 (ha : TD X cl a t) : WD X cl (.BoolOp .And [a] pos) t := pw_and1 ha
theorem t_or1 (ha : TD X cl a t) : WD X cl (.BoolOp .Or [a] pos) t := pw_or1 ha
theorem t_and {rest : List Expr} (ha : TD X cl a t) (hb : WD X cl (.BoolOp .And (b :: rest) pos) u) : WD X cl (.BoolOp .And (a :: b :: rest) pos) (tAndF t u) := PW.imp (pw_and ha hb) fun σ H Q h => by
  obtain ⟨w, ρ, S, d, S', hE, hS, hf, k⟩ := h
  obtain ⟨⟨x, S1⟩, h1, hf⟩ := obind hf
  refine ⟨w, ρ, S, x, S1, hE, hS, h1, fun w1 H1 a1 s1 => ?_⟩
  cases x with
  | true => exact ⟨w1, ρ, S1, d, S', hE.adv a1 hS, s1, hf, k.from a1 s1⟩
  | false =>
    cases hf
    exact (k.from a1 s1).now s1
theorem t_or {rest : List Expr} (ha : TD X cl a t) (hb : WD X cl (.BoolOp .Or (b :: rest) pos) u) : WD X cl (.BoolOp .Or (a :: b :: rest) pos) (tOrF t u) := PW.imp (pw_or ha hb) fun σ H Q h => by
  obtain ⟨w, ρ, S, d, S', hE, hS, hf, k⟩ := h
  obtain ⟨⟨x, S1⟩, h1, hf⟩ := obind hf
  refine ⟨w, ρ, S, x, S1, hE, hS, h1, fun w1 H1 a1 s1 => ?_⟩
  cases x with
  | false => exact ⟨w1, ρ, S1, d, S', hE.adv a1 hS, s1, hf, k.from a1 s1⟩
  | true =>
    cases hf
    exact (k.from a1 s1).now s1
theorem t_not (ha : TD X cl a t) : TD X cl (.UnaryOp .Not a pos) (tNotF t) := PT.imp (pt_not ha) fun σ H Q h => by
  obtain ⟨w, ρ, S, d, S', hE, hS, hf, k⟩ := h
  obtain ⟨⟨x, S1⟩, h1, hf⟩ := obind hf
  cases hf
  exact ⟨w, ρ, S, x, S1, hE, hS, h1, fun w1 H1 a1 s1 => k w1 H1 a1 s1⟩
end

/-! ### statements -/
section
variable {st : Stmt} {sts sts' : List Stmt} {a c o : Expr} {fa fb : EF} {f h : SF} {t : TF} {tg : GF} {pos : Pos}
theorem ss_nil : SsD X cl [] sNil := PSs.imp pss_nil fun D σ H h => by
  obtain ⟨w, ρ, S, r, hE, hS, hf, k⟩ := h
  cases hf
  exact KG1.now (show KG1 _ w H ρ S D.nx from k) hS hE
theorem ss_one (h1 : SD X cl st f) : SsD X cl [st] f := pss_one h1
theorem ss_cons (h1 : SD X cl st f) (h2 : SsD X cl sts h) : SsD X cl (st :: sts) (sSeq f h) := PSs.imp (pss_cons h1 h2) fun D σ H hh => by
  obtain ⟨w, ρ, S, r, hE, hS, hf, k⟩ := hh
  obtain ⟨⟨fl, ρ1, S1⟩, h3, hf⟩ := obind hf
  refine ⟨w, ρ, S, (fl, ρ1, S1), hE, hS, h3, ?_⟩
  cases fl with
  | nx => exact fun w1 σ1 H1 a1 e1 s1 => ⟨w1, ρ1, S1, r, e1, s1, hf, k.from a1 s1⟩
  | bk => cases hf; exact k
  | ct => cases hf; exact k
  | rt d => cases hf; exact k
theorem s_never : SD X cl st sNever := PS.imp ps_never fun D σ H h => by
  obtain ⟨w, ρ, S, r, hE, hS, hf, k⟩ := h
  cases hf
theorem ss_never : SsD X cl sts sNever := PSs.imp pss_never fun D σ H h => by
  obtain ⟨w, ρ, S, r, hE, hS, hf, k⟩ := h
  cases hf
theorem s_pass : SD X cl (.Pass pos) sNil := PS.imp ps_pass fun D σ H h => by
  obtain ⟨w, ρ, S, r, hE, hS, hf, k⟩ := h
  cases hf
  exact KG1.now (show KG1 _ w H ρ S D.nx from k) hS hE
theorem s_break : SD X cl (.Break pos) sBk := PS.imp ps_break fun D σ H h => by
  obtain ⟨w, ρ, S, r, hE, hS, hf, k⟩ := h
  cases hf
  exact KG1.now (show KG1 _ w H ρ S D.bk from k) hS hE
theorem s_cont : SD X cl (.Continue pos) sCt := PS.imp ps_continue fun D σ H h => by
  obtain ⟨w, ρ, S, r, hE, hS, hf, k⟩ := h
  cases hf
  exact KG1.now (show KG1 _ w H ρ S D.ct from k) hS hE
theorem s_expr (he : PD X cl a fa) (hs : swapsWith a none pos.line X.env = pure false := by rfl) : SD X cl (.Expr a pos) (sEx fa) := PS.imp (ps_expr he hs) fun D σ H h => by
  obtain ⟨w, ρ, S, r, hE, hS, hf, k⟩ := h
  obtain ⟨⟨x, S1⟩, h1, hf⟩ := obind hf
  cases hf
  exact ⟨w, ρ, S, x, S1, hE, hS, h1, fun w1 H1 v a1 s1 r1 => (show KG1 _ w H ρ S1 D.nx from k) w1 σ H1 a1 (hE.adv a1 hS) s1⟩
theorem s_ret (he : PD X cl a fa) : SD X cl (.Return (some a) pos) (sRet fa) := PS.imp (ps_ret he) fun D σ H h => by
  obtain ⟨w, ρ, S, r, hE, hS, hf, k⟩ := h
  obtain ⟨⟨x, S1⟩, h1, hf⟩ := obind hf
  cases hf
  exact ⟨w, ρ, S, x, S1, hE, hS, h1, k⟩
theorem s_retN : SD X cl (.Return none pos) (sRet (eC .non)) := PS.imp ps_retN fun D σ H h => by
  obtain ⟨w, ρ, S, r, hE, hS, hf, k⟩ := h
  obtain ⟨⟨x, S1⟩, h1, hf⟩ := obind hf
  cases h1
  cases hf
  exact (show KV1 _ w H .non S D.rt from k).now hS (by simp [RepV])
theorem s_if (hc : TD X cl c t) (ha : SsD X cl sts f) (hb : SsD X cl sts' h) : SD X cl (.If c sts sts' pos) (sIf t f h) := PS.imp (ps_if hc ha hb) fun D σ H hh => by
  obtain ⟨w, ρ, S, r, hE, hS, hf, k⟩ := hh
  obtain ⟨⟨x, S1⟩, h1, hf⟩ := obind hf
  refine ⟨w, ρ, S, x, S1, hE, hS, h1, fun w1 H1 a1 s1 => ?_⟩
  cases x with
  | true => exact ⟨w1, ρ, S1, r, hE.adv a1 hS, s1, hf, k.from a1 s1⟩
  | false => exact ⟨w1, ρ, S1, r, hE.adv a1 hS, s1, hf, k.from a1 s1⟩
/-! ### targets -/
theorem g_name (i : Nat) {x : Str} (hN : X.N.Nodup) (hi : X.N[i]? = some x := by rfl) (hx : Loc X.env.scope x := by first | exact Or.inl rfl | exact Or.inr rfl) (hf : X.fn x = true ∨ X.env.scope.names.lookup x = some .local := by first | exact .inl rfl | exact .inr rfl | assumption) : GD X cl (.Name x pos) (gVar i) := PG.imp (pg_name hN hi hx hf) fun v σ H Q h => by
  obtain ⟨w, ρ, S, d, ρ', S', hE, hS, hd, hf, k⟩ := h
  cases hf
  refine k.now hS ⟨by simp [hE.len], fun j z e => ?_⟩
  by_cases hj : i = j
  · subst hj
    rw [List.getElem?_set] at e
    split at e
    · split at e
      · rename_i hlt
        cases e
        exact ⟨v, by rw [List.getElem?_set_self (by rw [← hE.len]; exact hlt)], hd⟩
      · cases e
    · rename_i hne; exact absurd rfl hne
  · rw [List.getElem?_set_ne hj] at e ⊢
    exact hE.at_ j z e
theorem gs_nil : GsD X cl [] gNilF := PGs.imp pgs_nil fun vs σ H Q h => by
  obtain ⟨w, ρ, S, ds, ρ', S', hE, hS, hd, hf, k⟩ := h
  cases ds with
  | nil =>
    cases hf
    exact ⟨by simpa [RepVs] using hd, k.now hS hE⟩
  | cons _ _ => cases hf
theorem gs_cons {es : List Expr} {u : List D → Env → Store → Option (Env × Store)} (h1 : GD X cl a tg) (h2 : GsD X cl es u)
    (hs : (assignEach (a :: es) X.env).map (·.2) = assign a X.env :: (assignEach es X.env).map (·.2) := by rfl) : GsD X cl (a :: es) (gConsF tg u) := PGs.imp (pgs_cons h1 h2 hs) fun vs σ H Q h => by
  obtain ⟨w, ρ, S, ds, ρ', S', hE, hS, hd, hf, k⟩ := h
  cases ds with
  | nil => cases hf
  | cons d ds =>
    simp only [RepVs] at hd
    obtain ⟨v, r, e, r1, r2⟩ := hd
    obtain ⟨⟨ρ1, S1⟩, h3, hf⟩ := obind hf
    exact ⟨v, r, e, w, ρ, S, d, ρ1, S1, hE, hS, r1, h3, fun w1 σ1 H1 a1 e1 s1 => ⟨w1, ρ1, S1, ds, ρ', S', e1, s1, RepVs.adv a1 hS _ _ r2, hf, k.from a1 s1⟩⟩
theorem g_tup {es : List Expr} {x1 : Nat} {u : List D → Env → Store → Option (Env × Store)} {n : Nat} (hc : X.calm = true) (h : GsD X cl es u)
    (hn : (assignEach es X.env).length = n := by rfl) (hst : (assignEach es X.env).findIdx? (·.1) = none := by rfl) : GD X cl (.Tuple es x1 pos) (gTupF n u) := PG.imp (pg_tup hc h hn hst) fun v σ H Q h => by
  obtain ⟨w, ρ, S, d, ρ', S', hE, hS, hd, hf, k⟩ := h
  cases d with
  | tup ds =>
    simp only [RepV] at hd
    obtain ⟨p, vs, e, q, rs⟩ := hd
    change (if ds.length = n then u ds ρ S else none) = _ at hf
    split at hf
    · rename_i hl
      exact ⟨p, vs, e, q, by rw [← rs.length]; exact hl, w, ρ, S, ds, ρ', S', hE, hS, rs, hf, k⟩
    · cases hf
  | _ => cases hf
theorem s_asg {x : Expr} (he : PD X cl a fa) (hg : GD X cl x tg) (hs : swapsWithSole [x] a pos.line X.env = pure false := by rfl) (hw : swappedStores [x] a X.env = pure none := by rfl)
    (h1 : (assignEach [x] X.env).map (·.2) = [assign x X.env] := by rfl) : SD X cl (.Assign [x] a pos) (sAsg fa tg) := PS.imp (ps_asg he hg hs hw h1) fun D σ H h => by
  obtain ⟨w, ρ, S, r, hE, hS, hf, k⟩ := h
  obtain ⟨⟨x, S1⟩, h1, hf⟩ := obind hf
  obtain ⟨⟨ρ2, S2⟩, h2, hf⟩ := obind hf
  cases hf
  exact ⟨w, ρ, S, x, S1, hE, hS, h1, fun w1 H1 v a1 s1 r1 => ⟨w1, ρ, S1, x, ρ2, S2, hE.adv a1 hS, s1, r1, h2, KG1.from (show KG1 _ w H ρ2 S2 D.nx from k) a1 s1⟩⟩
end
end
end DZ

/-! DzD: operators by values: arithmetic, order, equality, membership, subscripts, slices. -/
namespace DZ
open PySem PySem.Spec PyProof.Rows L2

/-! ### data -/
mutual
def D.py : D → Option PyData
  | .non => some .none
  | .bl b => some (.bool b)
  | .int i => some (.int i)
  | .str x => some (.str x)
  | .tup xs => (D.pyAll xs).map .tuple
  | .lst xs => (D.pyAll xs).map .list
  | .scr ns => some (.list (ns.map .int))
  | .obj _ _ => none
  | .loc _ => none
def D.pyAll : List D → Option (List PyData)
  | [] => some []
  | d :: ds => (D.py d).bind fun x => (D.pyAll ds).bind fun r => some (x :: r)
end
def pyOf (S : Store) : D → Option PyData
  | .loc n => match S[n]? with
    | some (.lst xs) => (D.pyAll xs).map .list
    | _ => none
  | d => d.py
/-- the items of a list -/
def lstOf (S : Store) : D → Option (List D)
  | .lst xs => some xs
  | .loc n => match S[n]? with
    | some (.lst xs) => some xs
    | _ => none
  | _ => none
/-- the items of a list, also the script's -/
def rdOf (S : Store) : D → Option (List D)
  | .lst xs => some xs
  | .scr ns => some (ns.map .int)
  | .loc n => match S[n]? with
    | some (.lst xs) => some xs
    | _ => none
  | _ => none
def tupOf : D → Option (List D)
  | .tup xs => some xs
  | _ => none

section
variable {g : Gx} {w : Wo} {H : Hp} {S : Store} {d : D} {v : V} {xs : List D}
theorem RepVs.ints : ∀ {ns : List Int} {vs : List V}, RepVs g w H (ns.map .int) vs → vs = ns.map V.int
  | [], vs, h => by simpa [RepVs] using h
  | n :: ns, vs, h => by
    simp only [List.map_cons, RepVs, RepV] at h
    obtain ⟨v, r, rfl, rfl, h⟩ := h
    rw [RepVs.ints h, List.map_cons]
theorem RepVs.of_ints : ∀ (ns : List Int), RepVs g w H (ns.map .int) (ns.map V.int)
  | [] => by simp [RepVs]
  | n :: ns => by
    simp only [List.map_cons, RepVs, RepV]
    exact ⟨_, _, rfl, rfl, RepVs.of_ints ns⟩
theorem dpAll_ints {K : PySem.W.Frag} : ∀ (ns : List Int), DpAll K H (ns.map V.int) (ns.map .int)
  | [] => .nil
  | n :: ns => .cons (.int n) (dpAll_ints ns)
mutual
theorem RepV.py : ∀ (d : D) (v : V) (x : PyData), RepV g w H d v → d.py = some x → Dp g.K H v x
  | .non, v, x, r, e => by simp only [RepV] at r; simp only [D.py] at e; cases e; subst r; exact .non
  | .bl b, v, x, r, e => by simp only [RepV] at r; simp only [D.py] at e; cases e; subst r; exact .bl b
  | .int b, v, x, r, e => by simp only [RepV] at r; simp only [D.py] at e; cases e; subst r; exact .int b
  | .str b, v, x, r, e => by simp only [RepV] at r; simp only [D.py] at e; cases e; subst r; exact .str b
  | .tup xs, v, x, r, e => by
    simp only [RepV] at r
    simp only [D.py] at e
    obtain ⟨p, vs, rfl, q, rs⟩ := r
    obtain ⟨ys, e1, rfl⟩ := Option.map_eq_some_iff.mp e
    exact .tup q (RepVs.py xs vs ys rs e1)
  | .lst xs, v, x, r, e => by
    simp only [RepV] at r
    simp only [D.py] at e
    obtain ⟨p, vs, rfl, q, _, rs⟩ := r
    obtain ⟨ys, e1, rfl⟩ := Option.map_eq_some_iff.mp e
    exact .lst (SqL.of q) (RepVs.py xs vs ys rs e1)
  | .scr ns, v, x, r, e => by
    simp only [RepV] at r
    simp only [D.py] at e
    cases e
    obtain ⟨p, rfl, q⟩ := r
    refine .lst (xs := ns.map V.int) ?_ (dpAll_ints ns)
    rcases q with ⟨q, _⟩ | q
    · exact .inl q
    · exact q H
  | .obj _ _, v, x, r, e => by simp only [D.py] at e; cases e
  | .loc _, v, x, r, e => by simp only [D.py] at e; cases e
theorem RepVs.py : ∀ (ds : List D) (vs : List V) (xs : List PyData), RepVs g w H ds vs → D.pyAll ds = some xs → DpAll g.K H vs xs
  | [], vs, xs, r, e => by simp only [RepVs] at r; simp only [D.pyAll] at e; cases e; subst r; exact .nil
  | d :: ds, vs, xs, r, e => by
    simp only [RepVs] at r
    simp only [D.pyAll] at e
    obtain ⟨v, t, rfl, r1, r2⟩ := r
    obtain ⟨x, e1, e⟩ := obind e
    obtain ⟨y, e2, e⟩ := obind e
    cases e
    exact .cons (RepV.py d v x r1 e1) (RepVs.py ds t y r2 e2)
end
theorem RepV.pyOf {x : PyData} (s : RepS g w S H) (r : RepV g w H d v) (e : pyOf S d = some x) : Dp g.K H v x := by
  cases d with
  | loc n =>
    simp only [RepV] at r
    obtain ⟨p, hp, rfl⟩ := r
    obtain ⟨c, hc, hcell⟩ := s.cell hp
    unfold DZ.pyOf at e
    simp only [hc] at e
    cases c with
    | lst xs =>
      obtain ⟨vs, q, rs⟩ := hcell
      obtain ⟨ys, e1, rfl⟩ := Option.map_eq_some_iff.mp e
      exact .lst (SqL.of q) (RepVs.py xs vs ys rs e1)
    | _ => cases e
  | _ => exact RepV.py _ v x r e
theorem RepV.lstOf (s : RepS g w S H) (r : RepV g w H d v) (e : lstOf S d = some xs) : ∃ p vs, v = .ref p ∧ H p = some (.lst vs) ∧ RepVs g w H xs vs := by
  cases d with
  | loc n =>
    simp only [RepV] at r
    obtain ⟨p, hp, rfl⟩ := r
    obtain ⟨c, hc, hcell⟩ := s.cell hp
    unfold DZ.lstOf at e
    simp only [hc] at e
    cases c with
    | lst ys =>
      cases e
      obtain ⟨vs, q, rs⟩ := hcell
      exact ⟨p, vs, rfl, q, rs⟩
    | _ => cases e
  | lst ys =>
    cases e
    simp only [RepV] at r
    obtain ⟨p, vs, rfl, q, _, rs⟩ := r
    exact ⟨p, vs, rfl, q, rs⟩
  | _ => cases e
theorem RepV.rdOf (s : RepS g w S H) (r : RepV g w H d v) (e : rdOf S d = some xs) : ∃ p vs, v = .ref p ∧ SqL g.K H p vs ∧ RepVs g w H xs vs := by
  cases d with
  | scr ns =>
    cases e
    simp only [RepV] at r
    obtain ⟨p, rfl, q⟩ := r
    refine ⟨p, ns.map V.int, rfl, ?_, RepVs.of_ints ns⟩
    rcases q with ⟨q, _⟩ | q
    · exact .inl q
    · exact q H
  | loc n =>
    obtain ⟨p, vs, e1, q, rs⟩ := RepV.lstOf (xs := xs) s r e
    exact ⟨p, vs, e1, SqL.of q, rs⟩
  | lst ys =>
    obtain ⟨p, vs, e1, q, rs⟩ := RepV.lstOf (xs := xs) s r e
    exact ⟨p, vs, e1, SqL.of q, rs⟩
  | _ => cases e
theorem RepV.tupOf (r : RepV g w H d v) (e : tupOf d = some xs) : ∃ p vs, v = .ref p ∧ SqT g.K H p vs ∧ RepVs g w H xs vs := by
  cases d with
  | tup ys =>
    cases e
    simp only [RepV] at r
    exact r
  | _ => cases e
/-- a new list that is never changed -/
theorem RepV.newL {p : Addr} {vs : List V} (s : RepS g w S H) (hp : H p = none) (r : RepVs g w H xs vs) : RepV g w (upd H p (.lst vs)) (.lst xs) (.ref p) := by
  simp only [RepV]
  refine ⟨p, vs, rfl, upd_same, ⟨fun h => s.tracked h hp, fun h => ?_⟩, RepVs.adv (Adv.laid hp) s _ _ r⟩
  obtain ⟨_, e⟩ := s.be p h
  rw [hp] at e; cases e
theorem RepV.newT {p : Addr} {vs : List V} (s : RepS g w S H) (hp : H p = none) (r : RepVs g w H xs vs) : RepV g w (upd H p (.tup vs)) (.tup xs) (.ref p) := by
  simp only [RepV]
  exact ⟨p, vs, rfl, SqT.of upd_same, RepVs.adv (Adv.laid hp) s _ _ r⟩
theorem KV1.newL {p : Addr} {vs : List V} {Q : VK} (k : KV1 g w H (.lst xs) S Q) (s : RepS g w S H) (hp : H p = none) (r : RepVs g w H xs vs) : Q (.ref p) (upd H p (.lst vs)) :=
  k w _ _ (Adv.laid hp) (s.laid hp) (RepV.newL s hp r)
theorem KV1.newT {p : Addr} {vs : List V} {Q : VK} (k : KV1 g w H (.tup xs) S Q) (s : RepS g w S H) (hp : H p = none) (r : RepVs g w H xs vs) : Q (.ref p) (upd H p (.tup vs)) :=
  k w _ _ (Adv.laid hp) (s.laid hp) (RepV.newT s hp r)
theorem RepVs.append : ∀ {xs ys : List D} {vs us : List V}, RepVs g w H xs vs → RepVs g w H ys us → RepVs g w H (xs ++ ys) (vs ++ us)
  | [], ys, vs, us, h, h2 => by simp only [RepVs] at h; subst h; simpa using h2
  | x :: xs, ys, vs, us, h, h2 => by
    simp only [RepVs] at h
    obtain ⟨v, r, rfl, r1, r2⟩ := h
    simp only [List.cons_append, RepVs]
    exact ⟨v, _, rfl, r1, RepVs.append r2 h2⟩
theorem RepVs.get : ∀ {xs : List D} {vs : List V} {i : Nat} {x : D}, RepVs g w H xs vs → xs[i]? = some x → ∃ v, vs[i]? = some v ∧ RepV g w H x v
  | [], _, _, _, _, e => by simp at e
  | y :: xs, vs, 0, x, h, e => by
    simp only [RepVs] at h
    obtain ⟨v, r, rfl, r1, r2⟩ := h
    simp at e; subst e
    exact ⟨v, rfl, r1⟩
  | y :: xs, vs, i + 1, x, h, e => by
    simp only [RepVs] at h
    obtain ⟨v, r, rfl, r1, r2⟩ := h
    obtain ⟨u, h1, h2⟩ := RepVs.get (i := i) r2 (by simpa using e)
    exact ⟨u, by simpa using h1, h2⟩
theorem RepVs.set : ∀ {xs : List D} {vs : List V} {x : D} {v : V} (i : Nat), RepV g w H x v → RepVs g w H xs vs → RepVs g w H (xs.set i x) (vs.set i v)
  | [], vs, _, _, _, _, h => by simp only [RepVs] at h; subst h; simp [RepVs]
  | y :: xs, vs, x, v, 0, r0, h => by
    simp only [RepVs] at h
    obtain ⟨u, r, rfl, r1, r2⟩ := h
    simp only [List.set_cons_zero, RepVs]
    exact ⟨v, r, rfl, r0, r2⟩
  | y :: xs, vs, x, v, i + 1, r0, h => by
    simp only [RepVs] at h
    obtain ⟨u, r, rfl, r1, r2⟩ := h
    simp only [List.set_cons_succ, RepVs]
    exact ⟨u, _, rfl, r1, RepVs.set i r0 r2⟩
theorem RepVs.take : ∀ {xs : List D} {vs : List V} (n : Nat), RepVs g w H xs vs → RepVs g w H (xs.take n) (vs.take n)
  | _, _, 0, _ => by simp [RepVs]
  | [], vs, n + 1, h => by simp only [RepVs] at h; subst h; simp [RepVs]
  | y :: xs, vs, n + 1, h => by
    simp only [RepVs] at h
    obtain ⟨u, r, rfl, r1, r2⟩ := h
    simp only [List.take_succ_cons, RepVs]
    exact ⟨u, _, rfl, r1, RepVs.take n r2⟩
theorem RepVs.drop : ∀ {xs : List D} {vs : List V} (n : Nat), RepVs g w H xs vs → RepVs g w H (xs.drop n) (vs.drop n)
  | _, _, 0, h => by simpa using h
  | [], vs, n + 1, h => by simp only [RepVs] at h; subst h; simp [RepVs]
  | y :: xs, vs, n + 1, h => by
    simp only [RepVs] at h
    obtain ⟨u, r, rfl, r1, r2⟩ := h
    simpa using RepVs.drop n r2
theorem RepVs.eraseIdx : ∀ {xs : List D} {vs : List V} (n : Nat), RepVs g w H xs vs → RepVs g w H (xs.eraseIdx n) (vs.eraseIdx n)
  | [], vs, n, h => by simp only [RepVs] at h; subst h; simp [RepVs]
  | y :: xs, vs, 0, h => by
    simp only [RepVs] at h
    obtain ⟨u, r, rfl, r1, r2⟩ := h
    simpa using r2
  | y :: xs, vs, n + 1, h => by
    simp only [RepVs] at h
    obtain ⟨u, r, rfl, r1, r2⟩ := h
    simp only [List.eraseIdx_cons_succ, RepVs]
    exact ⟨u, _, rfl, r1, RepVs.eraseIdx n r2⟩
theorem RepVs.one {x : D} {v : V} (r : RepV g w H x v) : RepVs g w H [x] [v] := by
  simp only [RepVs]
  exact ⟨v, [], rfl, r, rfl⟩
end

/-! ### arithmetic -/
def opAdd : OF := fun a b S => match a, b with
  | .int i, .int j => some (.int (i + j), S)
  | .str x, .str y => if x.length + y.length ≤ 1000000 then some (.str (x ++ y), S) else none
  | .tup xs, .tup ys => if xs.length + ys.length ≤ 1000000 then some (.tup (xs ++ ys), S) else none
  | a, b => (lstOf S a).bind fun xs => (lstOf S b).bind fun ys => if xs.length + ys.length ≤ 1000000 then some (.lst (xs ++ ys), S) else none
def opSub : OF := fun a b S => match a, b with
  | .int i, .int j => some (.int (i - j), S)
  | _, _ => none
def opMul : OF := fun a b S => match a, b with
  | .int i, .int j => if i.natAbs.log2 + j.natAbs.log2 < 1000000 then some (.int (i * j), S) else none
  | _, _ => none
def opFdiv : OF := fun a b S => match a, b with
  | .int i, .int j => if 0 < j ∧ j.natAbs.log2 < 9000 then some (.int (i / j), S) else none
  | _, _ => none
def opMod : OF := fun a b S => match a, b with
  | .int i, .int j => if 0 < j then some (.int (i % j), S) else none
  | _, _ => none
def opPow : OF := fun a b S => match a, b with
  | .int i, .int j => if 0 ≤ j ∧ j ≤ 1000000 ∧ i.natAbs < 2 ^ 64 then some (.int (i ^ j.toNat), S) else none
  | _, _ => none
def opCmp (f : Int → Int → Bool) : OF := fun a b S => match a, b with
  | .int i, .int j => some (.bl (f i j), S)
  | _, _ => none
abbrev opLt : OF := opCmp fun i j => decide (i < j)
abbrev opLe : OF := opCmp fun i j => decide (i ≤ j)
abbrev opGt : OF := opCmp fun i j => decide (j < i)
abbrev opGe : OF := opCmp fun i j => decide (j ≤ i)
def eqD (S : Store) (a b : D) : Option Bool := match a, b with
  | .int i, .int j => some (decide (i = j))
  | .str x, .str y => some (decide (x = y))
  | a, b => (pyOf S a).bind fun x => (pyOf S b).bind fun y => if SeqAt.shaped x = true ∧ SeqAt.shaped y = true then some (PyData.eqv x y) else none
def opEq : OF := fun a b S => (eqD S a b).bind fun z => some (.bl z, S)
def opNe : OF := fun a b S => (eqD S a b).bind fun z => some (.bl (!z), S)
def inD (S : Store) (a b : D) : Option Bool := (pyOf S a).bind fun x => (pyOf S b).bind fun y => match y with
  | .list ds => if SeqAt.shaped x = true ∧ SeqAt.shaped (.list ds) = true then some (ds.any fun z => PyData.eqv z x) else none
  | .tuple ds => if SeqAt.shaped x = true ∧ SeqAt.shaped (.tuple ds) = true then some (ds.any fun z => PyData.eqv z x) else none
  | _ => none
def opIn : OF := fun a b S => (inD S a b).bind fun z => some (.bl z, S)
def opNotIn : OF := fun a b S => (inD S a b).bind fun z => some (.bl (!z), S)
/-- is None, is True, is False: the right side is one of these -/
def isD (a b : D) : Option Bool := match b with
  | .non => match a with
    | .non => some true
    | _ => some false
  | .bl k => match a with
    | .bl z => some (decide (z = k))
    | _ => some false
  | _ => none
def opIs : OF := fun a b S => (isD a b).bind fun z => some (.bl z, S)
def opIsNot : OF := fun a b S => (isD a b).bind fun z => some (.bl (!z), S)

section
variable {X : Cx} {cl : Str → Option Addr}

theorem o_add : OpR X (binaryOp .Add) (lOp (Cx.g X cl) opAdd) := OpR.imp (OpR.or op_add (OpR.or op_add_str (OpR.or op_catA op_cat))) fun x y H Q hh => by
  obtain ⟨w, S, a, b, d, S', s, ra, rb, hf, k⟩ := hh
  have lists : (lstOf S a).bind (fun xs => (lstOf S b).bind fun ys => if xs.length + ys.length ≤ 1000000 then some (D.lst (xs ++ ys), S) else none) = some (d, S') → rCat x y H Q := fun hf => by
    obtain ⟨xs, e1, hf⟩ := obind hf
    obtain ⟨ys, e2, hf⟩ := obind hf
    split at hf
    · rename_i hl
      cases hf
      obtain ⟨p, vs, rfl, q1, r1⟩ := ra.lstOf s e1
      obtain ⟨p2, vs2, rfl, q2, r2⟩ := rb.lstOf s e2
      exact ⟨p, p2, vs, vs2, rfl, rfl, q1, q2, by rw [← r1.length, ← r2.length]; exact Nat.le_trans hl million, fun q hq => k.newL s hq (r1.append r2)⟩
    · cases hf
  cases a with
  | int i =>
    cases b with
    | int j =>
      cases hf
      simp only [RepV] at ra rb
      exact .inl ⟨i, j, ra, rb, k.now s (by simp [RepV])⟩
    | _ => exact .inr (.inr (.inr (lists hf)))
  | str i =>
    cases b with
    | str j =>
      change (if i.length + j.length ≤ 1000000 then some (D.str (i ++ j), S) else none) = _ at hf
      split at hf
      · rename_i hl
        cases hf
        simp only [RepV] at ra rb
        exact .inr (.inl ⟨i, j, ra, rb, Nat.le_trans hl million, k.now s (by simp [RepV])⟩)
      · cases hf
    | _ => exact .inr (.inr (.inr (lists hf)))
  | tup xs =>
    cases b with
    | tup ys =>
      change (if xs.length + ys.length ≤ 1000000 then some (D.tup (xs ++ ys), S) else none) = _ at hf
      split at hf
      · rename_i hl
        cases hf
        obtain ⟨p, vs, rfl, q1, r1⟩ := ra.tupOf (xs := xs) rfl
        obtain ⟨p2, vs2, rfl, q2, r2⟩ := rb.tupOf (xs := ys) rfl
        refine .inr (.inr (.inl ⟨p, p2, vs, vs2, rfl, rfl, q1, q2, by rw [← r1.length, ← r2.length]; exact Nat.le_trans hl million, fun e => ?_, fun _ e => ?_, fun _ _ q hq => k.newT s hq (r1.append r2)⟩))
        · have : xs = [] := List.length_eq_zero_iff.mp (by rw [r1.length, e]; rfl)
          subst this
          exact k.now s rb
        · have : ys = [] := List.length_eq_zero_iff.mp (by rw [r2.length, e]; rfl)
          subst this
          rw [List.append_nil] at k
          exact k.now s ra
      · cases hf
    | _ => exact .inr (.inr (.inr (lists hf)))
  | _ => exact .inr (.inr (.inr (lists (by cases b <;> exact hf))))
theorem o_sub : OpR X (binaryOp .Sub) (lOp (Cx.g X cl) opSub) := OpR.imp op_sub fun x y H Q hh => by
  obtain ⟨w, S, a, b, d, S', s, ra, rb, hf, k⟩ := hh
  unfold opSub at hf
  split at hf
  · cases hf
    simp only [RepV] at ra rb
    exact ⟨_, _, ra, rb, k.now s (by simp [RepV])⟩
  · cases hf
theorem o_mul : OpR X (binaryOp .Mult) (lOp (Cx.g X cl) opMul) := OpR.imp op_mulW fun x y H Q hh => by
  obtain ⟨w, S, a, b, d, S', s, ra, rb, hf, k⟩ := hh
  unfold opMul at hf
  split at hf
  · split at hf
    · rename_i hl
      cases hf
      simp only [RepV] at ra rb
      exact ⟨_, _, ra, rb, hl, k.now s (by simp [RepV])⟩
    · cases hf
  · cases hf
theorem o_fdiv : OpR X (binaryOp .FloorDiv) (lOp (Cx.g X cl) opFdiv) := OpR.imp op_fdivW fun x y H Q hh => by
  obtain ⟨w, S, a, b, d, S', s, ra, rb, hf, k⟩ := hh
  unfold opFdiv at hf
  split at hf
  · split at hf
    · rename_i hl
      cases hf
      simp only [RepV] at ra rb
      exact ⟨_, _, ra, rb, hl, k.now s (by simp [RepV])⟩
    · cases hf
  · cases hf
theorem o_mod : OpR X (binaryOp .Mod) (lOp (Cx.g X cl) opMod) := OpR.imp op_mod fun x y H Q hh => by
  obtain ⟨w, S, a, b, d, S', s, ra, rb, hf, k⟩ := hh
  unfold opMod at hf
  split at hf
  · split at hf
    · rename_i hl
      cases hf
      simp only [RepV] at ra rb
      exact ⟨_, _, ra, rb, hl, k.now s (by simp [RepV])⟩
    · cases hf
  · cases hf
theorem o_pow : OpR X (binaryOp .Pow) (lOp (Cx.g X cl) opPow) := OpR.imp op_pow fun x y H Q hh => by
  obtain ⟨w, S, a, b, d, S', s, ra, rb, hf, k⟩ := hh
  unfold opPow at hf
  split at hf
  · split at hf
    · rename_i hl
      cases hf
      simp only [RepV] at ra rb
      exact ⟨_, _, ra, rb, hl, k.now s (by simp [RepV])⟩
    · cases hf
  · cases hf
theorem o_cmp {op : CmpOp} {f : Int → Int → Bool} (ho : OpR X (compareOp op) (rI0 fun i j => .bl (f i j))) : OpR X (compareOp op) (lOp (Cx.g X cl) (opCmp f)) := OpR.imp ho fun x y H Q hh => by
  obtain ⟨w, S, a, b, d, S', s, ra, rb, hf, k⟩ := hh
  unfold opCmp at hf
  split at hf
  · cases hf
    simp only [RepV] at ra rb
    exact ⟨_, _, ra, rb, k.now s (by simp [RepV])⟩
  · cases hf
theorem o_lt : OpR X (compareOp .Lt) (lOp (Cx.g X cl) opLt) := o_cmp op_lt
theorem o_le : OpR X (compareOp .LtE) (lOp (Cx.g X cl) opLe) := o_cmp op_le
theorem o_gt : OpR X (compareOp .Gt) (lOp (Cx.g X cl) opGt) := o_cmp op_gt
theorem o_ge : OpR X (compareOp .GtE) (lOp (Cx.g X cl) opGe) := o_cmp op_ge
theorem eqD_is {S : Store} {a b : D} {z : Bool} (h : eqD S a b = some z) : (∃ i j, a = .int i ∧ b = .int j ∧ z = decide (i = j)) ∨ (∃ i j, a = .str i ∧ b = .str j ∧ z = decide (i = j)) ∨
    (∃ x y, pyOf S a = some x ∧ pyOf S b = some y ∧ SeqAt.shaped x = true ∧ SeqAt.shaped y = true ∧ z = PyData.eqv x y) := by
  unfold eqD at h
  split at h
  · cases h; exact .inl ⟨_, _, rfl, rfl, rfl⟩
  · cases h; exact .inr (.inl ⟨_, _, rfl, rfl, rfl⟩)
  · obtain ⟨x, e1, h⟩ := obind h
    obtain ⟨y, e2, h⟩ := obind h
    split at h
    · rename_i hs
      cases h
      exact .inr (.inr ⟨x, y, e1, e2, hs.1, hs.2, rfl⟩)
    · cases h
theorem o_eq (hu : X.A.units + 64 < cLine) : OpR X (compareOp .Eq) (lOp (Cx.g X cl) opEq) := OpR.imp (OpR.or op_eq (op_eqD hu)) fun x y H Q hh => by
  obtain ⟨w, S, a, b, d, S', s, ra, rb, hf, k⟩ := hh
  obtain ⟨z, e, hf⟩ := obind hf
  cases hf
  have kz : Q (.bl z) H := k.now s (by simp [RepV])
  rcases eqD_is e with ⟨i, j, rfl, rfl, rfl⟩ | ⟨i, j, rfl, rfl, rfl⟩ | ⟨p, q, e1, e2, h1, h2, rfl⟩
  · simp only [RepV] at ra rb
    subst ra rb
    refine .inl ⟨rfl, ?_⟩
    have : decide (V.int i = V.int j) = decide (i = j) := by simp
    rw [this]; exact kz
  · simp only [RepV] at ra rb
    subst ra rb
    refine .inl ⟨rfl, ?_⟩
    have : decide (V.str i = V.str j) = decide (i = j) := by simp
    rw [this]; exact kz
  · exact .inr ⟨p, q, ra.pyOf s e1, rb.pyOf s e2, h1, h2, kz⟩
theorem o_ne (hu : X.A.units + 64 < cLine) : OpR X (compareOp .NotEq) (lOp (Cx.g X cl) opNe) := OpR.imp (OpR.or op_ne (op_neD hu)) fun x y H Q hh => by
  obtain ⟨w, S, a, b, d, S', s, ra, rb, hf, k⟩ := hh
  obtain ⟨z, e, hf⟩ := obind hf
  cases hf
  have kz : Q (.bl (!z)) H := k.now s (by simp [RepV])
  rcases eqD_is e with ⟨i, j, rfl, rfl, rfl⟩ | ⟨i, j, rfl, rfl, rfl⟩ | ⟨p, q, e1, e2, h1, h2, rfl⟩
  · simp only [RepV] at ra rb
    subst ra rb
    refine .inl ⟨rfl, ?_⟩
    have : decide (V.int i = V.int j) = decide (i = j) := by simp
    rw [this]; exact kz
  · simp only [RepV] at ra rb
    subst ra rb
    refine .inl ⟨rfl, ?_⟩
    have : decide (V.str i = V.str j) = decide (i = j) := by simp
    rw [this]; exact kz
  · exact .inr ⟨p, q, ra.pyOf s e1, rb.pyOf s e2, h1, h2, kz⟩
/-- in a tuple of data -/
def rInT (K : PySem.W.Frag) (neg : Bool) : R2 := fun x y H Q => ∃ d ds, Dp K H x d ∧ Dp K H y (.tuple ds) ∧ SeqAt.shaped d = true ∧ SeqAt.shaped (.tuple ds) = true ∧ Q (.bl (if neg then !(ds.any fun z => PyData.eqv z d) else ds.any fun z => PyData.eqv z d)) H
theorem op_inT (hu : X.A.units + 65 < cLine) : OpR X (compareOp .In) (rInT X.K false) := by
  intro pins s σ H x y v u Q I rx ry h
  obtain ⟨d, ds, hd, he, sd, se, q⟩ := h
  obtain ⟨as, r1⟩ := Dp.reads I d x v hd rx
  obtain ⟨bs, r2⟩ := Dp.reads I (.tuple ds) y u he ry
  exact SeqAt.in_tuple_reads r2 r1 (SeqAt.canLay_of_shaped se) (SeqAt.canLay_of_shaped sd) (room_in_shaped sd hu) ⟨.bl _, H, I, rfl, q⟩
theorem op_notInT (hu : X.A.units + 65 < cLine) : OpR X (compareOp .NotIn) (rInT X.K true) := by
  intro pins s σ H x y v u Q I rx ry h
  obtain ⟨d, ds, hd, he, sd, se, q⟩ := h
  obtain ⟨as, r1⟩ := Dp.reads I d x v hd rx
  obtain ⟨bs, r2⟩ := Dp.reads I (.tuple ds) y u he ry
  exact SeqAt.notIn_tuple_reads r2 r1 (SeqAt.canLay_of_shaped se) (SeqAt.canLay_of_shaped sd) (room_in_shaped sd hu) ⟨.bl _, H, I, rfl, q⟩
theorem inD_is {S : Store} {a b : D} {z : Bool} (h : inD S a b = some z) : ∃ x ds, pyOf S a = some x ∧ SeqAt.shaped x = true ∧ z = ds.any (fun z => PyData.eqv z x) ∧
    ((pyOf S b = some (.list ds) ∧ SeqAt.shaped (.list ds) = true) ∨ (pyOf S b = some (.tuple ds) ∧ SeqAt.shaped (.tuple ds) = true)) := by
  obtain ⟨x, e1, h⟩ := obind h
  obtain ⟨y, e2, h⟩ := obind h
  split at h
  · split at h
    · rename_i hs
      cases h
      exact ⟨x, _, e1, hs.1, rfl, .inl ⟨e2, hs.2⟩⟩
    · cases h
  · split at h
    · rename_i hs
      cases h
      exact ⟨x, _, e1, hs.1, rfl, .inr ⟨e2, hs.2⟩⟩
    · cases h
  · cases h
theorem o_in (hu : X.A.units + 65 < cLine) : OpR X (compareOp .In) (lOp (Cx.g X cl) opIn) := OpR.imp (OpR.or (op_inD hu) (op_inT hu)) fun x y H Q hh => by
  obtain ⟨w, S, a, b, d, S', s, ra, rb, hf, k⟩ := hh
  obtain ⟨z, e, hf⟩ := obind hf
  cases hf
  have kz : Q (.bl z) H := k.now s (by simp [RepV])
  obtain ⟨p, ds, e1, h1, rfl, ⟨e2, h2⟩ | ⟨e2, h2⟩⟩ := inD_is e
  · exact .inl ⟨p, ds, ra.pyOf s e1, rb.pyOf s e2, h1, h2, kz⟩
  · exact .inr ⟨p, ds, ra.pyOf s e1, rb.pyOf s e2, h1, h2, kz⟩
theorem o_notIn (hu : X.A.units + 65 < cLine) : OpR X (compareOp .NotIn) (lOp (Cx.g X cl) opNotIn) := OpR.imp (OpR.or (op_notInD hu) (op_notInT hu)) fun x y H Q hh => by
  obtain ⟨w, S, a, b, d, S', s, ra, rb, hf, k⟩ := hh
  obtain ⟨z, e, hf⟩ := obind hf
  cases hf
  have kz : Q (.bl (!z)) H := k.now s (by simp [RepV])
  obtain ⟨p, ds, e1, h1, rfl, ⟨e2, h2⟩ | ⟨e2, h2⟩⟩ := inD_is e
  · exact .inl ⟨p, ds, ra.pyOf s e1, rb.pyOf s e2, h1, h2, kz⟩
  · exact .inr ⟨p, ds, ra.pyOf s e1, rb.pyOf s e2, h1, h2, kz⟩
/-- v is True where v is any value -/
def rIsK (neg : Bool) : R2 := fun x y H Q => ∃ b : Bool, y = .bl b ∧ Q (.bl (if neg then !decide (x = .bl b) else decide (x = .bl b))) H

theorem neB {v u : Value} {Q : Bool → Shared → Prop} {s : Shared} (hv : v ≠ u) (h : Q false s) : Q (v == u) s := by
  rw [beq_eq_false_iff_ne.mpr hv]; exact h
theorem same_bool {M : Model} {A : Around} {E : Value → Shared → Prop} {s : Shared} {x : V} {v : Value} {k : Bool} {Q : Bool → Shared → Prop} (r : RelV x v) (h : Q (decide (x = .bl k)) s) : wpAny M A (isSame v (.bool k)) Q E s := by
  cases x with
  | non => cases r; exact wpAny_pure (neB (fun z => nomatch z) (by simpa using h))
  | bl b =>
    cases r
    refine wpAny_pure ?_
    have e : (Value.bool b == Value.bool k) = decide (V.bl b = V.bl k) := by cases b <;> cases k <;> rfl
    first
      | (rw [← e] at h; exact h)
      | (cases b <;> cases k <;> exact h)
  | int _ => obtain ⟨t, rfl⟩ := r; exact wpAny_pure (neB (fun z => nomatch z) (by simpa using h))
  | str _ => obtain ⟨t, rfl⟩ := r; exact wpAny_pure (neB (fun z => nomatch z) (by simpa using h))
  | byt _ => obtain ⟨t, rfl⟩ := r; exact wpAny_pure (neB (fun z => nomatch z) (by simpa using h))
  | flt _ => obtain ⟨t, rfl⟩ := r; exact wpAny_pure (neB (fun z => nomatch z) (by simpa using h))
  | ref _ => cases r; exact wpAny_pure (neB (fun z => nomatch z) (by simpa using h))
  | ty _ => cases r; exact wpAny_pure (neB (fun z => nomatch z) (by simpa using h))
theorem op_isK : OpR X (compareOp .Is) (rIsK false) := by
  intro pins s σ H x y v u Q I rx ry h
  obtain ⟨b, rfl, q⟩ := h
  cases (show u = Value.bool b from ry)
  show wpAny _ _ (do return Value.bool (← isSame v (.bool b))) _ _ _
  refine wpAny_bind (same_bool rx (wpAny_pure ⟨.bl _, H, I, rfl, q⟩))
theorem op_isNotK : OpR X (compareOp .IsNot) (rIsK true) := by
  intro pins s σ H x y v u Q I rx ry h
  obtain ⟨b, rfl, q⟩ := h
  cases (show u = Value.bool b from ry)
  show wpAny _ _ (do return Value.bool (!(← isSame v (.bool b)))) _ _ _
  refine wpAny_bind (same_bool rx (wpAny_pure ⟨.bl _, H, I, rfl, q⟩))
/-- is None -/
theorem RepV.isNon {g : Gx} {w : Wo} {H : Hp} {a : D} {x : V} (r : RepV g w H a x) : decide (x = .non) = (match a with
    | .non => true
    | _ => false) := by
  cases a <;> simp only [RepV] at r
  all_goals first
    | (subst r; rfl)
    | (obtain ⟨p, vs, rfl, _⟩ := r; rfl)
    | (obtain ⟨p, rfl, _⟩ := r; rfl)
    | (obtain ⟨p, C, dx, vs, rfl, _⟩ := r; rfl)
    | (obtain ⟨p, _, rfl⟩ := r; rfl)
theorem RepV.isBl {g : Gx} {w : Wo} {H : Hp} {a : D} {x : V} {k : Bool} (r : RepV g w H a x) : decide (x = .bl k) = (match a with
    | .bl z => decide (z = k)
    | _ => false) := by
  cases a <;> simp only [RepV] at r
  all_goals first
    | (subst r; simp)
    | (obtain ⟨p, vs, rfl, _⟩ := r; rfl)
    | (obtain ⟨p, rfl, _⟩ := r; rfl)
    | (obtain ⟨p, C, dx, vs, rfl, _⟩ := r; rfl)
    | (obtain ⟨p, _, rfl⟩ := r; rfl)
theorem o_is : OpR X (compareOp .Is) (lOp (Cx.g X cl) opIs) := OpR.imp (OpR.or op_isN op_isK) fun x y H Q hh => by
  obtain ⟨w, S, a, b, d, S', s, ra, rb, hf, k⟩ := hh
  obtain ⟨z, e, hf⟩ := obind hf
  cases hf
  have kz : Q (.bl z) H := k.now s (by simp [RepV])
  cases b with
  | non =>
    simp only [RepV] at rb
    refine .inl ⟨rb, ?_⟩
    rw [ra.isNon]
    cases a <;> cases e <;> exact kz
  | bl q =>
    simp only [RepV] at rb
    refine .inr ⟨q, rb, ?_⟩
    rw [if_neg Bool.false_ne_true, ra.isBl]
    cases a <;> cases e <;> exact kz
  | _ => cases e
theorem o_isNot : OpR X (compareOp .IsNot) (lOp (Cx.g X cl) opIsNot) := OpR.imp (OpR.or op_notN op_isNotK) fun x y H Q hh => by
  obtain ⟨w, S, a, b, d, S', s, ra, rb, hf, k⟩ := hh
  obtain ⟨z, e, hf⟩ := obind hf
  cases hf
  have kz : Q (.bl (!z)) H := k.now s (by simp [RepV])
  cases b with
  | non =>
    simp only [RepV] at rb
    refine .inl ⟨rb, ?_⟩
    rw [ra.isNon]
    cases a <;> cases e <;> exact kz
  | bl q =>
    simp only [RepV] at rb
    refine .inr ⟨q, rb, ?_⟩
    rw [if_pos rfl, ra.isBl]
    cases a <;> cases e <;> exact kz
  | _ => cases e
end

/-! ### subscripts, slices -/
def opIx : OF := fun a b S => match b with
  | .int i => match a with
    | .tup xs => (atI xs i).bind fun d => some (d, S)
    | a => (rdOf S a).bind fun xs => (atI xs i).bind fun d => some (d, S)
  | _ => none
/-- a slice's bound -/
def pNo : Env → Store → Option (Option Int × Store) := fun _ S => some (none, S)
def pSo (f : EF) : Env → Store → Option (Option Int × Store) := fun ρ S => (f ρ S).bind fun r => match r.1 with
  | .int i => some (some i, r.2)
  | _ => none
def cutD (xs : List D) (lo hi : Option Int) : List D := (xs.drop (HT.sIx xs.length 0 lo)).take (HT.sIx xs.length xs.length hi - HT.sIx xs.length 0 lo)
def opSl (a : D) (lo hi : Option Int) (S : Store) : Option (D × Store) := match a with
  | .tup xs => some (.tup (cutD xs lo hi), S)
  | a => (rdOf S a).bind fun xs => some (.lst (cutD xs lo hi), S)
def eSl (fa : EF) (fl fh : Env → Store → Option (Option Int × Store)) : EF := fun ρ S => (fa ρ S).bind fun r => (fl ρ r.2).bind fun q => (fh ρ q.2).bind fun z => opSl r.1 q.1 z.1 z.2
def lP (g : Gx) (f : Env → Store → Option (Option Int × Store)) : L2.St → Hp → (Option Int → Hp → Prop) → Prop := fun σ H Q => ∃ w ρ S i S', RepE g w H ρ σ ∧ RepS g w S H ∧ f ρ S = some (i, S') ∧ ∀ w' H', Adv w H w' H' → RepS g w' S' H' → Q i H'

theorem atI_rep {g : Gx} {w : Wo} {H : Hp} {xs : List D} {vs : List V} {i : Int} {d : D} (r : RepVs g w H xs vs) (e : atI xs i = some d) : ∃ v, atI vs i = some v ∧ RepV g w H d v := by
  unfold atI at e ⊢
  rw [← r.length]
  cases h : ixN xs.length i with
  | none => rw [h] at e; cases e
  | some j =>
    rw [h] at e
    exact r.get e
theorem cutD_rep {g : Gx} {w : Wo} {H : Hp} {xs : List D} {vs : List V} {lo hi : Option Int} (r : RepVs g w H xs vs) : RepVs g w H (cutD xs lo hi) (cutV vs lo hi) := by
  unfold cutD cutV
  rw [← r.length]
  exact (r.drop _).take _
section
variable {X : Cx} {cl : Str → Option Addr} {a : Expr} {fa : EF} {lo hi : Option Expr} {fl fh : Env → Store → Option (Option Int × Store)} {pos p2 : Pos}
theorem o_ix : IxR X (lOp (Cx.g X cl) opIx) := by
  intro value slice pins s σ H x y v u Q I rx ry hh hsub
  refine ix_seq value slice pins s σ H x y v u Q I rx ry ?_ hsub
  obtain ⟨w, S, a, b, d, S', s, ra, rb, hf, k⟩ := hh
  unfold opIx at hf
  split at hf
  · rename_i i
    simp only [RepV] at rb
    subst rb
    split at hf
    · obtain ⟨z, e1, hf⟩ := obind hf
      cases hf
      obtain ⟨p, vs, rfl, q, r⟩ := ra.tupOf rfl
      obtain ⟨v, e2, rv⟩ := atI_rep r e1
      exact .inr (.inl ⟨p, vs, _, v, rfl, rfl, q, e2, k.now s rv⟩)
    · obtain ⟨xs, e0, hf⟩ := obind hf
      obtain ⟨z, e1, hf⟩ := obind hf
      cases hf
      obtain ⟨p, vs, rfl, q, r⟩ := ra.rdOf s e0
      obtain ⟨v, e2, rv⟩ := atI_rep r e1
      exact .inl ⟨p, vs, _, v, rfl, rfl, q, e2, k.now s rv⟩
  · cases hf
abbrev QD (X : Cx) (cl : Str → Option Addr) (e : Option Expr) (f : Env → Store → Option (Option Int × Store)) : Prop := PO X e (lP (Cx.g X cl) f)
theorem p_no : QD X cl none pNo := ⟨fun pins s σ H Q I h => by
  refine po_none.run pins s σ H Q I ?_
  obtain ⟨w, ρ, S, i, S', hE, hS, hf, k⟩ := h
  cases hf
  exact k w H .refl hS⟩
theorem p_so (h : PD X cl a fa) : QD X cl (some a) (pSo fa) := ⟨fun pins s σ H Q I hh => by
  refine (po_some h).run pins s σ H Q I ?_
  obtain ⟨w, ρ, S, i, S', hE, hS, hf, k⟩ := hh
  obtain ⟨⟨x, S1⟩, h1, hf⟩ := obind hf
  refine ⟨w, ρ, S, x, S1, hE, hS, h1, fun w1 H1 v a1 s1 r1 => ?_⟩
  cases x with
  | int j =>
    cases hf
    simp only [RepV] at r1
    exact ⟨j, r1, k w1 H1 a1 s1⟩
  | _ => cases hf⟩
theorem d_slice (he : PD X cl a fa) (hl : QD X cl lo fl) (hu : QD X cl hi fh) : PD X cl (.Subscript a (.Slice lo hi none p2) pos) (eSl fa fl fh) := PE.imp (pe_slice (SlR.or sl_tupA sl_list) he hl hu) fun σ H Q h => by
  obtain ⟨w, ρ, S, d, S', hE, hS, hf, k⟩ := h
  obtain ⟨⟨x, S1⟩, h1, hf⟩ := obind hf
  obtain ⟨⟨l, S2⟩, h2, hf⟩ := obind hf
  obtain ⟨⟨u, S3⟩, h3, hf⟩ := obind hf
  refine ⟨w, ρ, S, x, S1, hE, hS, h1, fun w1 H1 v a1 s1 r1 => ⟨w1, ρ, S1, l, S2, hE.adv a1 hS, s1, h2, fun w2 H2 a2 s2 => ⟨w2, ρ, S2, u, S3, (hE.adv a1 hS).adv a2 s1, s2, h3, fun w3 H3 a3 s3 => ?_⟩⟩⟩
  have k3 := ((k.from a1 s1).from a2 s2).from a3 s3
  have r3 := (r1.adv a2 s1 _ _).adv a3 s2 _ _
  have other : (rdOf S3 x).bind (fun xs => some (D.lst (cutD xs l u), S3)) = some (d, S') → (fun x lo hi H Q => rSlA X.K x lo hi H Q ∨ rSlL X.K x lo hi H Q) v l u H3 Q := fun hf => by
    obtain ⟨xs, e0, hf⟩ := obind hf
    cases hf
    obtain ⟨p, vs, rfl, q, r⟩ := r3.rdOf s3 e0
    exact .inr ⟨p, vs, rfl, q, fun q hq => k3.newL s3 hq (cutD_rep r)⟩
  cases x with
  | tup xs =>
    change some (D.tup (cutD xs l u), S3) = _ at hf
    cases hf
    obtain ⟨p, vs, rfl, q, r⟩ := r3.tupOf rfl
    refine .inl ⟨p, vs, rfl, q, fun e => ?_, fun _ q hq => k3.newT s3 hq (cutD_rep r)⟩
    have : cutD xs l u = xs := by
      unfold cutD
      rw [← r.length] at e
      rw [e.1, e.2]
      simp
    rw [this] at k3
    exact k3.now s3 r3
  | _ => exact other hf
end
end DZ

/-! DzE: new lists (kept as they are, or mutable), what a for walks, loops, comprehensions. -/
namespace DZ
open PySem PySem.Spec PyProof.Rows L2
open Classical

/-! ### an expression that makes a new list -/
/-- w1: where all stands; p: the new list, banned meanwhile -/
def KL1 (g : Gx) (w : Wo) (H : Hp) (ds : List D) (S' : Store) (Q : VK) : Prop := ∀ (w1 : Wo) (H1 : Hp) (vs : List V) (p : Addr), Adv w H w1 H1 → p ∈ w1.be → RepS g w1 S' H1 → H1 p = some (.lst vs) → RepVs g w1 H1 ds vs → H p = none → Q (.ref p) H1
def lL (g : Gx) (f : AF) : TE := fun σ H Q => ∃ w ρ S ds S', RepE g w H ρ σ ∧ RepS g w S H ∧ f ρ S = some (ds, S') ∧ KL1 g w H ds S' Q
abbrev LD (X : Cx) (cl : Str → Option Addr) (e : Expr) (f : AF) : Prop := PE X e (lL (Cx.g X cl) f)
/-- never changed again -/
def eFz (f : AF) : EF := fun ρ S => (f ρ S).bind fun r => some (.lst r.1, r.2)
/-- a mutable one -/
def eCe (f : AF) : EF := fun ρ S => (f ρ S).bind fun r => some (.loc r.2.length, r.2 ++ [.lst r.1])

section
variable {g : Gx} {w w1 : Wo} {H H1 : Hp} {S S' : Store} {p : Addr} {ds : List D} {vs : List V} {Q : VK}
def Wo.un (w : Wo) (p : Addr) : Wo := ⟨w.io, w.be.filter (· ≠ p)⟩
theorem un_no {q : Addr} (h : w.no q) : (w.un p).no q := ⟨h.1, fun z => h.2 (List.mem_filter.mp z).1⟩
theorem RepS.un (s : RepS g w S H) : RepS g (w.un p) S H :=
  ⟨s.len, s.nd, fun n c q e1 e2 => (s.at_ n c q e1 e2).wo (fun _ h => un_no h) fun _ _ h => h, fun q hq => s.be q (List.mem_filter.mp hq).1, fun q hq => s.ne q (List.mem_filter.mp hq).1⟩
theorem Adv.un (a : Adv w H w1 H1) (hp : H p = none) (s : RepS g w S H) : Adv w H (w1.un p) H1 :=
  ⟨a.ext, a.pre, fun q hq => List.mem_filter.mpr ⟨a.be1 q hq, by
    obtain ⟨vs, e⟩ := s.be q hq
    simp only [ne_eq, decide_not, Bool.not_eq_eq_eq_not, Bool.not_true, decide_eq_false_iff_not]
    rintro rfl
    rw [hp] at e; cases e⟩, fun q hq => a.be2 q (List.mem_filter.mp hq).1, a.fr⟩
theorem kl_fz (s0 : RepS g w S H) (k : KV1 g w H (.lst ds) S' Q) : KL1 g w H ds S' Q := fun w1 H1 vs p a hp s e r hn => by
  refine k (w1.un p) H1 _ (a.un hn s0) s.un ?_
  simp only [RepV]
  exact ⟨p, vs, rfl, e, ⟨s.ne p hp, fun z => by simpa using (List.mem_filter.mp z).2⟩, RepVs.wo (fun _ h => un_no h) (fun _ _ h => h) _ _ r⟩
def Wo.add (w : Wo) (p : Addr) : Wo := ⟨w.io ++ [p], w.be.filter (· ≠ p)⟩
theorem add_no {q : Addr} (hp : p ∈ w.be) (h : w.no q) : (w.add p).no q := by
  refine ⟨fun z => ?_, fun z => h.2 (List.mem_filter.mp z).1⟩
  rcases List.mem_append.mp z with z | z
  · exact h.1 z
  · simp only [List.mem_singleton] at z
    subst z
    exact h.2 hp
theorem add_io {n : Nat} {q : Addr} (h : w.io[n]? = some q) : (w.add p).io[n]? = some q := by
  show (w.io ++ [p])[n]? = _
  rw [List.getElem?_append_left (List.getElem?_eq_some_iff.mp h).1]
  exact h
theorem RepS.add (s : RepS g w S H) (hp : p ∈ w.be) (e : H p = some (.lst vs)) (r : RepVs g w H ds vs) : RepS g (w.add p) (S ++ [.lst ds]) H := by
  have nw : ∀ {c : Cell} {q : Addr}, CellAt g w H q c → CellAt g (w.add p) H q c := fun h => h.wo (fun _ h => add_no hp h) fun _ _ h => add_io h
  refine ⟨?_, ?_, fun n c q e1 e2 => ?_, fun q hq => s.be q (List.mem_filter.mp hq).1, fun q hq => ?_⟩
  · show (w.io ++ [p]).length = _
    rw [List.length_append, List.length_append, s.len]; rfl
  · show (w.io ++ [p]).Nodup
    refine List.nodup_append.mpr ⟨s.nd, by simp, fun a ha b hb => ?_⟩
    simp only [List.mem_singleton] at hb
    subst hb
    rintro rfl
    exact s.ne _ hp ha
  · have e2 : (w.io ++ [p])[n]? = some q := e2
    by_cases hn : n < S.length
    · rw [List.getElem?_append_left hn] at e1
      rw [List.getElem?_append_left (by rw [s.len]; exact hn)] at e2
      exact nw (s.at_ n c q e1 e2)
    · have hn' : n = S.length := by
        have := (List.getElem?_eq_some_iff.mp e1).1
        rw [List.length_append] at this
        simp only [List.length_singleton] at this
        omega
      subst hn'
      rw [List.getElem?_append_right (Nat.le_refl _)] at e1
      rw [List.getElem?_append_right (by rw [s.len]; exact Nat.le_refl _), s.len] at e2
      simp at e1 e2
      subst e1 e2
      exact ⟨vs, e, RepVs.wo (fun _ h => add_no hp h) (fun _ _ h => add_io h) _ _ r⟩
  · have h1 := List.mem_filter.mp hq
    intro z
    rcases List.mem_append.mp z with z | z
    · exact s.ne q h1.1 z
    · simp only [List.mem_singleton] at z
      subst z
      simpa using h1.2
theorem Adv.add (a : Adv w H w1 H1) (hp : H p = none) (s : RepS g w S H) : Adv w H (w1.add p) H1 := by
  obtain ⟨l, el, hl⟩ := a.pre
  have b := a.un hp s
  refine ⟨a.ext, ⟨l ++ [p], by show w1.io ++ [p] = _; rw [el, List.append_assoc], fun q hq => ?_⟩, b.be1, b.be2, a.fr⟩
  rcases List.mem_append.mp hq with hq | hq
  · exact hl q hq
  · simp only [List.mem_singleton] at hq
    subst hq
    exact hp
theorem kl_ce (s0 : RepS g w S H) (k : KV1 g w H (.loc S'.length) (S' ++ [.lst ds]) Q) : KL1 g w H ds S' Q := fun w1 H1 vs p a hp s e r hn => by
  refine k (w1.add p) H1 _ (a.add hn s0) (s.add hp e r) ?_
  simp only [RepV]
  refine ⟨p, ?_, rfl⟩
  show (w1.io ++ [p])[S'.length]? = _
  rw [List.getElem?_append_right (by rw [s.len]; exact Nat.le_refl _), s.len]
  simp
/-- a list laid at a free place -/
def Wo.ban (w : Wo) (p : Addr) : Wo := ⟨w.io, p :: w.be⟩
theorem Adv.ban {o : HO} (hp : H p = none) : Adv w H (w.ban p) (upd H p o) :=
  ⟨fun q u e _ => by rw [upd_ne (ne_of_none e hp)]; exact e, ⟨[], by simp [Wo.ban], by simp⟩, fun q hq => List.mem_cons_of_mem _ hq, fun q hq => by
    rcases List.mem_cons.mp hq with rfl | hq
    · exact .inr hp
    · exact .inl hq, fun q b u e => by rw [upd_ne (ne_of_none e hp)]; exact e⟩
theorem RepS.ban (s : RepS g w S H) (hp : H p = none) : RepS g (w.ban p) S (upd H p (.lst vs)) := by
  refine ⟨s.len, s.nd, fun n c q e1 e2 => ?_, fun q hq => ?_, fun q hq => ?_⟩
  · have hq : q ≠ p := by
      rintro rfl
      exact s.tracked (List.mem_of_getElem? e2) hp
    exact (s.at_ n c q e1 e2).adv (Adv.ban hp) s (upd_ne hq)
  · rcases List.mem_cons.mp hq with rfl | hq
    · exact ⟨vs, upd_same⟩
    · obtain ⟨us, e⟩ := s.be q hq
      exact ⟨us, by rw [upd_ne (ne_of_none e hp)]; exact e⟩
  · rcases List.mem_cons.mp hq with rfl | hq
    · exact fun z => s.tracked z hp
    · exact s.ne q hq
end
section
variable {X : Cx} {cl : Str → Option Addr} {e : Expr} {es : List Expr} {f : AF} {fa : EF} {F : OF} {pos : Pos}
theorem d_fz (h : LD X cl e f) : PD X cl e (eFz f) := PE.imp h fun σ H Q h => by
  obtain ⟨w, ρ, S, d, S', hE, hS, hf, k⟩ := h
  obtain ⟨⟨x, S1⟩, h1, hf⟩ := obind hf
  cases hf
  exact ⟨w, ρ, S, x, S1, hE, hS, h1, kl_fz hS k⟩
theorem d_ce (h : LD X cl e f) : PD X cl e (eCe f) := PE.imp h fun σ H Q h => by
  obtain ⟨w, ρ, S, d, S', hE, hS, hf, k⟩ := h
  obtain ⟨⟨x, S1⟩, h1, hf⟩ := obind hf
  cases hf
  exact ⟨w, ρ, S, x, S1, hE, hS, h1, kl_ce hS k⟩
/-- the reading of a rule that lays a new list -/
theorem kl_new {g : Gx} {w w1 : Wo} {H H1 : Hp} {S1 : Store} {ds : List D} {vs : List V} {Q : VK} {p : Addr} (k : KL1 g w H ds S1 Q) (a : Adv w H w1 H1) (s : RepS g w1 S1 H1) (r : RepVs g w1 H1 ds vs) (hp : H1 p = none) : Q (.ref p) (upd H1 p (.lst vs)) :=
  k (w1.ban p) _ vs p (a.trans s (Adv.ban hp)) List.mem_cons_self (s.ban hp) upd_same (RepVs.adv (Adv.ban hp) s _ _ r) (a.back s hp)
def aMax (f : AF) : AF := fun ρ S => (f ρ S).bind fun r => if r.1.length ≤ 1000000 then some r else none
theorem l_lst (h : AD X cl es f) : LD X cl (.List es pos) (aMax f) := PE.imp (pe_lst h) fun σ H Q h => by
  obtain ⟨w, ρ, S, d, S', hE, hS, hf, k⟩ := h
  obtain ⟨⟨x, S1⟩, h1, hf⟩ := obind hf
  split at hf
  · rename_i hl
    cases hf
    exact ⟨w, ρ, S, _, _, hE, hS, h1, fun w1 H1 vs a1 s1 r1 => ⟨by rw [← r1.length]; exact Nat.le_trans hl million, fun p hp => kl_new k a1 s1 r1 hp⟩⟩
  · cases hf
/-- a call of a built-in that gives a new list: lC with KL1 -/
def lCL (g : Gx) (f : List D → Store → Option (List D × Store)) : List V → Hp → VK → Prop := fun vs H Q => ∃ w S ds xs S', RepS g w S H ∧ RepVs g w H ds vs ∧ f ds S = some (xs, S') ∧ KL1 g w H xs S' Q
def aCall (F : List D → Store → Option (List D × Store)) (f : AF) : AF := fun ρ S => (f ρ S).bind fun r => F r.1 r.2
theorem KL1.from {g : Gx} {w w1 : Wo} {H H1 : Hp} {S1 S' : Store} {ds : List D} {Q : VK} (k : KL1 g w H ds S' Q) (a : Adv w H w1 H1) (s : RepS g w1 S1 H1) : KL1 g w1 H1 ds S' Q := fun w2 H2 vs p a2 hp s2 e r hn =>
  k w2 H2 vs p (a.trans s a2) hp s2 e r (a.back s hn)
theorem l_blt {a : Expr} {x : Str} {p : Pos} {id : String} {F : List D → Store → Option (List D × Store)} (hc : CallR X (.builtin id) (lCL (Cx.g X cl) F)) (hm : X.mg x = none) (ha : AD X cl (a :: es) f) (hv : bootBuiltins x = some (.builtin id) := by decide +kernel) (hg : Gl X x := by rfl) (hn : x ≠ "__name__" := by decide) (hdb : (x == ("__debug__" : Str)) = false := by decide)
    (he : starEach (a :: es) X.env = (false, eval a X.env) :: starEach es X.env := by rfl) (hpl : (backTo pos (starEach es X.env)).any (·.1) = false := by rfl) : LD X cl (.Call (.Name x p) (a :: es) [] pos) (aCall F f) := PE.imp (pe_callB hc hg hm hv ha hn hdb he hpl) fun σ H Q h => by
  obtain ⟨w, ρ, S, d, S', hE, hS, hf, k⟩ := h
  obtain ⟨⟨x, S1⟩, h1, hf⟩ := obind hf
  exact ⟨w, ρ, S, x, S1, hE, hS, h1, fun w1 H1 vs a1 s1 r1 => ⟨w1, S1, x, d, S', s1, r1, hf, k.from a1 s1⟩⟩
theorem l_bty {a : Expr} {x : Str} {p : Pos} {T : String} {F : List D → Store → Option (List D × Store)} (hc : CallR X (.type T) (lCL (Cx.g X cl) F)) (hm : X.mg x = none) (ha : AD X cl (a :: es) f) (hv : bootBuiltins x = some (.type T) := by decide +kernel) (hg : Gl X x := by rfl) (hn : x ≠ "__name__" := by decide) (hdb : (x == ("__debug__" : Str)) = false := by decide)
    (he : starEach (a :: es) X.env = (false, eval a X.env) :: starEach es X.env := by rfl) (hpl : (backTo pos (starEach es X.env)).any (·.1) = false := by rfl) : LD X cl (.Call (.Name x p) (a :: es) [] pos) (aCall F f) := PE.imp (pe_callTy hc hg hm hv ha hn hdb he hpl) fun σ H Q h => by
  obtain ⟨w, ρ, S, d, S', hE, hS, hf, k⟩ := h
  obtain ⟨⟨x, S1⟩, h1, hf⟩ := obind hf
  exact ⟨w, ρ, S, x, S1, hE, hS, h1, fun w1 H1 vs a1 s1 r1 => ⟨w1, S1, x, d, S', s1, r1, hf, k.from a1 s1⟩⟩
end

/-! ### what a for walks -/
structure Src where
  items : List D
  locks : List (Nat × Cell)
def Src.ok (s : Src) (S : Store) : Prop := ∀ q ∈ s.locks, S[q.1]? = some q.2
abbrev IF := Env → Store → Option (Src × Store)
def SimIt (g : Gx) (J : It) (src : Src) (w : Wo) (H : Hp) : Prop := ∀ w1 S1 H1, Adv w H w1 H1 → RepS g w1 S1 H1 → src.ok S1 →
  (∀ i, i < src.items.length → J.go i H1 ∧ ∀ x H', J.yld i H1 x H' → ∃ d, src.items[i]? = some d ∧ Adv w1 H1 w1 H' ∧ RepS g w1 S1 H' ∧ RepV g w1 H' d x) ∧ J.stop src.items.length H1
def lI (g : Gx) (f : IF) : TI := fun σ H R => ∃ w ρ S src S', RepE g w H ρ σ ∧ RepS g w S H ∧ f ρ S = some (src, S') ∧ ∀ w' H' J, Adv w H w' H' → RepS g w' S' H' → SimIt g J src w' H' → R J H'
abbrev ID (X : Cx) (cl : Str → Option Addr) (tg iter : Expr) (f : IF) : Prop := PI X tg iter (lI (Cx.g X cl) f)
theorem PI.imp {X : Cx} {tg iter : Expr} {t t' : TI} (h : PI X tg iter t) (i : ∀ σ H R, t' σ H R → t σ H R) : PI X tg iter t' := ⟨fun pins s σ H R I q => h.run pins s σ H R I (i σ H R q)⟩
theorem PI.or {X : Cx} {tg iter : Expr} {t t' : TI} (h : PI X tg iter t) (h' : PI X tg iter t') : PI X tg iter (fun σ H R => t σ H R ∨ t' σ H R) := ⟨fun pins s σ H R I q => q.elim (h.run pins s σ H R I) (h'.run pins s σ H R I)⟩

/-- a list, a tuple -/
def srcOf (S : Store) : D → Option Src
  | .tup xs => some ⟨xs, []⟩
  | .lst xs => some ⟨xs, []⟩
  | .scr ns => some ⟨ns.map .int, []⟩
  | .loc n => match S[n]? with
    | some (.lst xs) => some ⟨xs, [(n, .lst xs)]⟩
    | _ => none
  | _ => none
def iSeq (fa : EF) : IF := fun ρ S => (fa ρ S).bind fun r => (srcOf r.2 r.1).bind fun s => some (s, r.2)
section
variable {X : Cx} {cl : Str → Option Addr} {g : Gx} {w : Wo} {H : Hp} {S : Store}
/-- the items where they stand -/
theorem items_at {n : Nat} {xs : List D} {vs : List V} {J : It} {G : Hp → Prop} {w1 : Wo} {S1 : Store} {H1 : Hp} (W : Walk J n G (YAt vs)) (hn : n = xs.length) (q : G H1) (s1 : RepS g w1 S1 H1) (r : RepVs g w1 H1 xs vs) :
    (∀ i, i < xs.length → J.go i H1 ∧ ∀ x H', J.yld i H1 x H' → ∃ d, xs[i]? = some d ∧ Adv w1 H1 w1 H' ∧ RepS g w1 S1 H' ∧ RepV g w1 H' d x) ∧ J.stop xs.length H1 := by
  subst hn
  refine ⟨fun i hi => ⟨W.goes i H1 hi q, fun x H' y => ?_⟩, W.stops H1 q⟩
  obtain ⟨e1, e2⟩ := W.yields i H1 x H' hi q y
  subst e1
  have hx : xs[i]? = some xs[i] := by simp [hi]
  obtain ⟨v, e3, rv⟩ := r.get hx
  rw [e2] at e3; cases e3
  exact ⟨_, hx, .refl, s1, rv⟩
theorem srcOf_tup {xs : List D} {v : V} (s : RepS g w S H) (r : RepV g w H (.tup xs) v) : ∃ p vs, v = .ref p ∧ SqT g.K H p vs ∧ SimIt g (Itt g.K p) ⟨xs, []⟩ w H := by
  obtain ⟨p, vs, rfl, q, rs⟩ := r.tupOf rfl
  exact ⟨p, vs, rfl, q, fun w1 S1 H1 a1 s1 _ => items_at walk_tup rs.length.symm (a1.sqT s q) s1 (RepVs.adv a1 s _ _ rs)⟩
theorem srcOf_list {d : D} {v : V} {src : Src} (s : RepS g w S H) (r : RepV g w H d v) (e : srcOf S d = some src) (hd : ∀ xs, d ≠ .tup xs) : ∃ p vs, v = .ref p ∧ SqL g.K H p vs ∧ SimIt g (Itl g.K p) src w H := by
  cases d with
  | tup xs => exact absurd rfl (hd xs)
  | lst xs =>
    cases e
    simp only [RepV] at r
    obtain ⟨p, vs, rfl, q, n, rs⟩ := r
    exact ⟨p, vs, rfl, SqL.of q, fun w1 S1 H1 a1 s1 _ => items_at walk_list rs.length.symm (SqL.of (a1.ext p _ q n.1)) s1 (RepVs.adv a1 s _ _ rs)⟩
  | scr ns =>
    cases e
    simp only [RepV] at r
    obtain ⟨p, rfl, q⟩ := r
    refine ⟨p, ns.map V.int, rfl, ?_, fun w1 S1 H1 a1 s1 _ => items_at walk_list (by simp) ?_ s1 (RepVs.of_ints ns)⟩
    · rcases q with ⟨q, _⟩ | q
      · exact .inl q
      · exact q H
    · rcases q with ⟨q, n⟩ | q
      · exact .inl (a1.rd s n.1 q)
      · exact q H1
  | loc n =>
    obtain ⟨p, hp, rfl⟩ := (show ∃ p, w.io[n]? = some p ∧ v = .ref p by simpa [RepV] using r)
    obtain ⟨c, hc, hcell⟩ := s.cell hp
    unfold srcOf at e
    simp only [hc] at e
    cases c with
    | lst xs =>
      cases e
      obtain ⟨vs, q, rs⟩ := hcell
      refine ⟨p, vs, rfl, SqL.of q, fun w1 S1 H1 a1 s1 ok => ?_⟩
      have hc1 := ok (n, .lst xs) List.mem_cons_self
      obtain ⟨us, q1, r1⟩ := s1.at_ n _ p hc1 (a1.io hp)
      exact items_at walk_list r1.length.symm (SqL.of q1) s1 r1
    | _ => cases e
  | _ => cases e
end
section
variable {X : Cx} {cl : Str → Option Addr} {tg it a b : Expr} {fa : EF} {fr : AF} {iF : IF} {t : GF} {pos p : Pos} {body : List Stmt} {f : SF}
theorem i_seq (h : PD X cl it fa) : ID X cl tg it (iSeq fa) := PI.imp (PI.or (pi_tup h) (pi_list h)) fun σ H R hh => by
  obtain ⟨w, ρ, S, src, S', hE, hS, hf, k⟩ := hh
  obtain ⟨⟨x, S1⟩, h1, hf⟩ := obind hf
  obtain ⟨sr, h2, hf⟩ := obind hf
  cases hf
  by_cases hd : ∃ xs, x = .tup xs
  · obtain ⟨xs, rfl⟩ := hd
    cases h2
    refine .inl ⟨w, ρ, S, _, S1, hE, hS, h1, fun w1 H1 v a1 s1 r1 => ?_⟩
    obtain ⟨p, vs, rfl, q, sim⟩ := srcOf_tup s1 r1
    exact ⟨p, rfl, ⟨vs, q⟩, k w1 H1 _ a1 s1 sim⟩
  · refine .inr ⟨w, ρ, S, x, S1, hE, hS, h1, fun w1 H1 v a1 s1 r1 => ?_⟩
    obtain ⟨p, vs, rfl, q, sim⟩ := srcOf_list s1 r1 h2 fun xs e => hd ⟨xs, e⟩
    exact ⟨p, rfl, ⟨vs, q⟩, k w1 H1 _ a1 s1 sim⟩
def rngD (lo : Int) (n : Nat) : List D := (List.range n).map fun i => .int (lo + (i : Nat))
theorem sim_range {g : Gx} {w : Wo} {H : Hp} {lo : Int} {n : Nat} : SimIt g (Itr lo n) ⟨rngD lo n, []⟩ w H := fun w1 S1 H1 a1 s1 _ => by
  have hl : (rngD lo n).length = n := by simp [rngD]
  show (∀ i, i < (rngD lo n).length → _) ∧ (Itr lo n).stop (rngD lo n).length H1
  rw [hl]
  refine ⟨fun i hi => ⟨walk_range.goes i H1 hi trivial, fun x H' y => ?_⟩, walk_range.stops H1 trivial⟩
  obtain ⟨e1, e2⟩ := walk_range.yields i H1 x H' hi trivial y
  subst e1
  refine ⟨.int (lo + (i : Nat)), by simp [rngD, hi], .refl, s1, ?_⟩
  simp only [RepV]
  exact e2
def iRg1 (f : AF) : IF := fun ρ S => (f ρ S).bind fun r => match r.1 with
  | [.int j] => if -1000000 ≤ j ∧ j ≤ 1000000 then some (⟨rngD 0 j.toNat, []⟩, r.2) else none
  | _ => none
def iRg2 (f : AF) : IF := fun ρ S => (f ρ S).bind fun r => match r.1 with
  | [.int i, .int j] => if (-1000000 ≤ i ∧ i ≤ 1000000) ∧ -1000000 ≤ j ∧ j ≤ 1000000 then some (⟨rngD i (j - i).toNat, []⟩, r.2) else none
  | _ => none
theorem RepVs.one' {g : Gx} {w : Wo} {H : Hp} {x : D} {vs : List V} (r : RepVs g w H [x] vs) : ∃ v, vs = [v] ∧ RepV g w H x v := by
  simp only [RepVs] at r
  obtain ⟨v, _, rfl, r, rfl⟩ := r
  exact ⟨v, rfl, r⟩
theorem RepVs.two' {g : Gx} {w : Wo} {H : Hp} {x y : D} {vs : List V} (r : RepVs g w H [x, y] vs) : ∃ v u, vs = [v, u] ∧ RepV g w H x v ∧ RepV g w H y u := by
  simp only [RepVs] at r
  obtain ⟨v, _, rfl, r, u, _, rfl, r2, rfl⟩ := r
  exact ⟨v, u, rfl, r, r2⟩

theorem i_rg1 (hm : X.mg "range" = none) (ha : AD X cl [a] fr) (hg : Gl X "range" := by rfl) (hs : starEach [a] X.env = [(false, eval a X.env)] := by rfl) : ID X cl tg (.Call (.Name "range" p) [a] [] pos) (iRg1 fr) := PI.imp (pi_range1 hg hm ha hs) fun σ H R hh => by
  obtain ⟨w, ρ, S, src, S', hE, hS, hf, k⟩ := hh
  obtain ⟨⟨x, S1⟩, h1, hf⟩ := obind hf
  refine ⟨w, ρ, S, x, S1, hE, hS, h1, fun w1 H1 vs a1 s1 r1 => ?_⟩
  dsimp only at hf
  split at hf
  · rename_i j
    split at hf
    · rename_i hj
      cases hf
      obtain ⟨v, rfl, rv⟩ := r1.one'
      simp only [RepV] at rv
      subst rv
      exact ⟨j, rfl, by omega, by omega, k w1 H1 _ a1 s1 sim_range⟩
    · cases hf
  · cases hf
theorem i_rg2 (hm : X.mg "range" = none) (ha : AD X cl [a, b] fr) (hg : Gl X "range" := by rfl) (hs : starEach [a, b] X.env = [(false, eval a X.env), (false, eval b X.env)] := by rfl) (hs2 : starEach [b] X.env = [(false, eval b X.env)] := by rfl) :
    ID X cl tg (.Call (.Name "range" p) [a, b] [] pos) (iRg2 fr) := PI.imp (pi_range2 hg hm ha hs hs2) fun σ H R hh => by
  obtain ⟨w, ρ, S, src, S', hE, hS, hf, k⟩ := hh
  obtain ⟨⟨x, S1⟩, h1, hf⟩ := obind hf
  refine ⟨w, ρ, S, x, S1, hE, hS, h1, fun w1 H1 vs a1 s1 r1 => ?_⟩
  dsimp only at hf
  split at hf
  · rename_i i j
    split at hf
    · rename_i hj
      cases hf
      obtain ⟨v, u, rfl, rv, ru⟩ := r1.two'
      simp only [RepV] at rv ru
      subst rv ru
      exact ⟨i, j, rfl, ⟨by omega, by omega, by omega, by omega⟩, k w1 H1 _ a1 s1 sim_range⟩
    · cases hf
  · cases hf

/-! ### for -/
noncomputable def forGo (ok : Store → Prop) (tg : GF) (body : SF) : List D → Env → Store → Option (Fl × Env × Store)
  | [], ρ, S => if ok S then some (.nx, ρ, S) else none
  | d :: ds, ρ, S => if ok S then (tg d ρ S).bind fun r => (body r.1 r.2).bind fun q => match q.1 with
      | .nx => forGo ok tg body ds q.2.1 q.2.2
      | .ct => forGo ok tg body ds q.2.1 q.2.2
      | .bk => some (.nx, q.2.1, q.2.2)
      | .rt _ => some q
    else none
noncomputable def sFor (iF : IF) (tg : GF) (body : SF) : SF := fun ρ S => (iF ρ S).bind fun r => forGo r.1.ok tg body r.1.items ρ r.2
theorem s_for {tgt : Expr} (hp : PassesOwn (model X.prog X.w) X.A X.env X.xe) (hc : X.calm = true) (hi : ID X cl tgt it iF) (hg : GD X cl tgt t) (hb : SsD X cl body f)
    (hs : ∀ x, foldedSetIterable it X.env x = pure x := by intro _; rfl) : SD X cl (.For tgt it body [] pos) (sFor iF t f) := PS.imp (ps_for hp hc hi hg hb hs) fun D σ H hh => by
  obtain ⟨w, ρ, S, r, hE, hS, hf, k⟩ := hh
  obtain ⟨⟨src, S1⟩, h1, hf⟩ := obind hf
  refine ⟨w, ρ, S, src, S1, hE, hS, h1, fun w1 H1 J a1 s1 sim => ?_⟩
  have k1 := k.from a1 s1
  have hE1 := hE.adv a1 hS
  refine ⟨fun i m σ' H' => m = src.items.length - i ∧ i ≤ src.items.length ∧ ∃ w' ρ' S', Adv w1 H1 w' H' ∧ RepE (Cx.g X cl) w' H' ρ' σ' ∧ RepS (Cx.g X cl) w' S' H' ∧ forGo src.ok t f (src.items.drop i) ρ' S' = some r,
    ⟨_, rfl, Nat.zero_le _, w1, ρ, S1, .refl, hE1, s1, hf⟩, ?_⟩
  rintro i m σ' H' ⟨rfl, hi, w', ρ', S', a', e', s', hf'⟩
  by_cases hlt : i < src.items.length
  · rw [List.drop_eq_getElem_cons hlt] at hf'
    unfold forGo at hf'
    split at hf'
    · rename_i hok
      obtain ⟨⟨ρ2, S2⟩, h2, hf'⟩ := obind hf'
      obtain ⟨⟨fl, ρ3, S3⟩, h3, hf'⟩ := obind hf'
      obtain ⟨go, _⟩ := sim w' S' H' a' s' hok
      obtain ⟨go, yl⟩ := go i hlt
      refine .inr ⟨go, fun σ'' H'' => ∃ w'' ρ'' S'', Adv w1 H1 w'' H'' ∧ RepE (Cx.g X cl) w'' H'' ρ'' σ'' ∧ RepS (Cx.g X cl) w'' S'' H'' ∧ forGo src.ok t f (src.items.drop (i + 1)) ρ'' S'' = some r, fun σ'' H'' q => ⟨_, by omega, rfl, hlt, q⟩, fun x Hx y => ?_⟩
      obtain ⟨d, hd, ax, sx, rx⟩ := yl x Hx y
      have hd' : d = src.items[i] := by
        rw [List.getElem?_eq_getElem hlt] at hd
        exact (Option.some.inj hd).symm
      subst hd'
      refine ⟨w', ρ', S', _, ρ2, S2, e'.adv ax s', sx, rx, h2, fun w4 σ4 H4 a4 e4 s4 => ⟨w4, ρ2, S2, (fl, ρ3, S3), e4, s4, h3, ?_⟩⟩
      have a14 : Adv w1 H1 w4 H4 := (a'.trans s' ax).trans sx a4
      cases fl with
      | nx => exact fun w5 σ5 H5 a5 e5 s5 => ⟨w5, ρ3, S3, a14.trans s4 a5, e5, s5, hf'⟩
      | ct => exact fun w5 σ5 H5 a5 e5 s5 => ⟨w5, ρ3, S3, a14.trans s4 a5, e5, s5, hf'⟩
      | bk =>
        cases hf'
        exact fun w5 σ5 H5 a5 e5 s5 => KG1.now (w := w5) (H := H5) (KG1.from (show KG1 _ w1 H1 ρ3 S3 D.nx from k1) (a14.trans s4 a5) s5) s5 e5
      | rt z =>
        cases hf'
        exact fun w5 H5 v5 a5 s5 r5 => (show KV1 _ w1 H1 z S3 D.rt from k1) w5 H5 v5 (a14.trans s4 a5) s5 r5
    · cases hf'
  · have e : i = src.items.length := by omega
    subst e
    rw [List.drop_length] at hf'
    unfold forGo at hf'
    split at hf'
    · rename_i hok
      cases hf'
      obtain ⟨_, stop⟩ := sim w' S' H' a' s' hok
      exact .inl ⟨stop, (show KG1 _ w1 H1 ρ' S' D.nx from k1) w' σ' H' a' e' s'⟩
    · cases hf'
/-! ### while -/
def whileGo (c : TF) (body : SF) : Nat → Env → Store → Option (Fl × Env × Store)
  | 0, _, _ => none
  | n + 1, ρ, S => (c ρ S).bind fun r => if r.1 = true then (body ρ r.2).bind fun q => match q.1 with
      | .nx => whileGo c body n q.2.1 q.2.2
      | .ct => whileGo c body n q.2.1 q.2.2
      | .bk => some (.nx, q.2.1, q.2.2)
      | .rt _ => some q
    else some (.nx, ρ, r.2)
noncomputable def sWhile (c : TF) (body : SF) : SF := fun ρ S => if h : ∃ n r, whileGo c body n ρ S = some r then whileGo c body (choose h) ρ S else none
theorem s_while {c : Expr} {tc : TF} (hp : PassesOwn (model X.prog X.w) X.A X.env X.xe) (hc : TD X cl c tc) (hb : SsD X cl body f) : SD X cl (.While c body [] pos) (sWhile tc f) := PS.imp (ps_while hp hc hb) fun D σ H hh => by
  obtain ⟨w, ρ, S, r, hE, hS, hf, k⟩ := hh
  unfold sWhile at hf
  split at hf
  · rename_i hn
    generalize choose hn = n at hf
    refine ⟨fun m σ' H' => ∃ w' ρ' S', Adv w H w' H' ∧ RepE (Cx.g X cl) w' H' ρ' σ' ∧ RepS (Cx.g X cl) w' S' H' ∧ whileGo tc f m ρ' S' = some r, ⟨n, w, ρ, S, .refl, hE, hS, hf⟩, ?_⟩
    rintro m σ' H' ⟨w', ρ', S', a', e', s', hf'⟩
    cases m with
    | zero => cases hf'
    | succ m =>
      unfold whileGo at hf'
      obtain ⟨⟨b, S2⟩, h2, hf'⟩ := obind hf'
      refine ⟨w', ρ', S', b, S2, e', s', h2, fun w2 H2 a2 s2 => ?_⟩
      cases b with
      | false =>
        cases hf'
        rw [if_neg Bool.false_ne_true]
        exact (show KG1 _ w H ρ' S2 D.nx from k) w2 σ' H2 (a'.trans s' a2) (e'.adv a2 s') s2
      | true =>
        rw [if_pos rfl]
        obtain ⟨⟨fl, ρ3, S3⟩, h3, hf'⟩ := obind hf'
        refine ⟨fun σ'' H'' => ∃ w'' ρ'' S'', Adv w H w'' H'' ∧ RepE (Cx.g X cl) w'' H'' ρ'' σ'' ∧ RepS (Cx.g X cl) w'' S'' H'' ∧ whileGo tc f m ρ'' S'' = some r, fun σ'' H'' q => ⟨m, Nat.lt_succ_self _, q⟩, w2, ρ', S2, (fl, ρ3, S3), e'.adv a2 s', s2, h3, ?_⟩
        have a12 := a'.trans s' a2
        cases fl with
        | nx => exact fun w5 σ5 H5 a5 e5 s5 => ⟨w5, ρ3, S3, a12.trans s2 a5, e5, s5, hf'⟩
        | ct => exact fun w5 σ5 H5 a5 e5 s5 => ⟨w5, ρ3, S3, a12.trans s2 a5, e5, s5, hf'⟩
        | bk =>
          cases hf'
          exact fun w5 σ5 H5 a5 e5 s5 => KG1.now (w := w5) (H := H5) (KG1.from (show KG1 _ w H ρ3 S3 D.nx from k) (a12.trans s2 a5) s5) s5 e5
        | rt z =>
          cases hf'
          exact fun w5 H5 v5 a5 s5 r5 => (show KV1 _ w H z S3 D.rt from k) w5 H5 v5 (a12.trans s2 a5) s5 r5
  · cases hf
end
end DZ

/-! DzF: comprehensions. -/
namespace DZ
open PySem PySem.Spec PyProof.Rows L2
open Classical

/-! ### a banned list is changed -/
section
variable {g : Gx} {w w1 : Wo} {H H1 : Hp} {S S' : Store} {p D : Addr} {o : HO} {us : List V}
theorem sqT_updB {vs : List V} (hD : H D = some (.lst us)) (q : SqT g.K H p vs) : SqT g.K (upd H D o) p vs := by
  rcases q with (q | ⟨b, q⟩) | q
  · exact .inl (.inl (by rw [upd_ne (by rintro rfl; rw [hD] at q; cases q)]; exact q))
  · exact .inl (.inr ⟨b, by rw [upd_ne (by rintro rfl; rw [hD] at q; cases q)]; exact q⟩)
  · exact .inr q
theorem no_ne (hb : D ∈ w.be) (n : w.no p) : p ≠ D := by
  rintro rfl
  exact n.2 hb
mutual
theorem RepV.updB (hb : D ∈ w.be) (hD : H D = some (.lst us)) : ∀ (d : DZ.D) (v : V), RepV g w H d v → RepV g w (upd H D o) d v
  | .non, _, r => by simpa [RepV] using r
  | .bl _, _, r => by simpa [RepV] using r
  | .int _, _, r => by simpa [RepV] using r
  | .str _, _, r => by simpa [RepV] using r
  | .tup xs, v, r => by
    simp only [RepV] at r ⊢
    obtain ⟨p, vs, e, q, rs⟩ := r
    exact ⟨p, vs, e, sqT_updB hD q, RepVs.updB hb hD xs vs rs⟩
  | .lst xs, v, r => by
    simp only [RepV] at r ⊢
    obtain ⟨p, vs, e, q, n, rs⟩ := r
    exact ⟨p, vs, e, by rw [upd_ne (no_ne hb n)]; exact q, n, RepVs.updB hb hD xs vs rs⟩
  | .scr ns, v, r => by
    simp only [RepV] at r ⊢
    obtain ⟨p, e, q⟩ := r
    refine ⟨p, e, ?_⟩
    rcases q with ⟨q, n⟩ | q
    · refine .inl ⟨?_, n⟩
      rcases q with q | ⟨b, q⟩
      · exact .inl (by rw [upd_ne (no_ne hb n)]; exact q)
      · exact .inr ⟨b, by rw [upd_ne (no_ne hb n)]; exact q⟩
    · exact .inr q
  | .obj c fs, v, r => by
    simp only [RepV] at r ⊢
    obtain ⟨p, C, dx, vs, e, hc, q, n, rs⟩ := r
    exact ⟨p, C, dx, vs, e, hc, by rw [upd_ne (no_ne hb n)]; exact q, n, RepFs.updB hb hD fs vs rs⟩
  | .loc n, v, r => by
    simp only [RepV] at r ⊢
    exact r
theorem RepVs.updB (hb : D ∈ w.be) (hD : H D = some (.lst us)) : ∀ (ds : List DZ.D) (vs : List V), RepVs g w H ds vs → RepVs g w (upd H D o) ds vs
  | [], _, r => by simpa [RepVs] using r
  | d :: ds, vs, r => by
    simp only [RepVs] at r ⊢
    obtain ⟨v, t, e, r1, r2⟩ := r
    exact ⟨v, t, e, RepV.updB hb hD d v r1, RepVs.updB hb hD ds t r2⟩
theorem RepFs.updB (hb : D ∈ w.be) (hD : H D = some (.lst us)) : ∀ (ds : List (Str × DZ.D)) (vs : List (Str × V)), RepFs g w H ds vs → RepFs g w (upd H D o) ds vs
  | [], _, r => by simpa [RepFs] using r
  | (x, d) :: ds, vs, r => by
    simp only [RepFs] at r ⊢
    obtain ⟨v, t, e, r1, r2⟩ := r
    exact ⟨v, t, e, RepV.updB hb hD d v r1, RepFs.updB hb hD ds t r2⟩
end
theorem RepKs.updB (hb : D ∈ w.be) (hD : H D = some (.lst us)) : ∀ (ds : List (Key × DZ.D)) (vs : List (Key × V)), RepKs g w H ds vs → RepKs g w (upd H D o) ds vs
  | [], _, r => by simpa [RepKs] using r
  | (x, d) :: ds, vs, r => by
    simp only [RepKs] at r ⊢
    obtain ⟨v, t, e, r1, r2⟩ := r
    exact ⟨v, t, e, RepV.updB hb hD d v r1, RepKs.updB hb hD ds t r2⟩
theorem RepS.updB {vs : List V} (s : RepS g w S H) (hb : D ∈ w.be) : RepS g w S (upd H D (.lst vs)) := by
  obtain ⟨us, hD⟩ := s.be D hb
  refine ⟨s.len, s.nd, fun n c q e1 e2 => ?_, fun q hq => ?_, s.ne⟩
  · have hq : q ≠ D := by
      rintro rfl
      exact s.ne _ hb (List.mem_of_getElem? e2)
    have z := s.at_ n c q e1 e2
    cases c with
    | lst xs => obtain ⟨vs, q, rs⟩ := z; exact ⟨vs, by rw [upd_ne hq]; exact q, RepVs.updB hb hD _ _ rs⟩
    | dct kvs => obtain ⟨vs, q, rs⟩ := z; exact ⟨vs, by rw [upd_ne hq]; exact q, RepKs.updB hb hD _ _ rs⟩
    | ins c fs => obtain ⟨C, dx, vs, hc, q, rs⟩ := z; exact ⟨C, dx, vs, hc, by rw [upd_ne hq]; exact q, RepFs.updB hb hD _ _ rs⟩
    | lck kvs => obtain ⟨o, vs, q, rs⟩ := z; exact ⟨o, vs, by rw [upd_ne hq]; exact q, RepKs.updB hb hD _ _ rs⟩
  · by_cases e : q = D
    · subst e; exact ⟨vs, upd_same⟩
    · rw [upd_ne e]; exact s.be q hq
theorem Adv.updB {vs : List V} (a : Adv w1 H1 w H) (hn : H1 D = none) : Adv w1 H1 w (upd H D (.lst vs)) :=
  ⟨fun p o e hp => by rw [upd_ne (ne_of_none e hn)]; exact a.ext p o e hp, a.pre, a.be1, a.be2, fun p o u e => by rw [upd_ne (ne_of_none e hn)]; exact a.fr p o u e⟩
end

/-! ### slots forgotten -/
def wipeE (ρ : Env) : List Nat → Env
  | [] => ρ
  | v :: vs => (wipeE ρ vs).set v none
theorem wipeE_length (ρ : Env) : ∀ vs, (wipeE ρ vs).length = ρ.length
  | [] => rfl
  | v :: vs => by unfold wipeE; rw [List.length_set, wipeE_length ρ vs]
theorem wipeE_some {ρ : Env} {i : Nat} {x : D} : ∀ {vs : List Nat}, (wipeE ρ vs)[i]? = some (some x) → ρ[i]? = some (some x) ∧ i ∉ vs
  | [], h => ⟨h, by simp⟩
  | v :: vs, h => by
    unfold wipeE at h
    by_cases hi : v = i
    · subst hi
      by_cases hv : v < (wipeE ρ vs).length
      · rw [List.getElem?_set_self hv] at h; cases h
      · rw [List.getElem?_eq_none (by simpa using hv)] at h; cases h
    · rw [List.getElem?_set_ne hi] at h
      obtain ⟨h1, h2⟩ := wipeE_some h
      exact ⟨h1, by simp only [List.mem_cons, not_or]; exact ⟨fun e => hi e.symm, h2⟩⟩
theorem wipe_keep {σ : L2.St} {i : Nat} : ∀ {vs : List Nat}, i ∉ vs → (wipe σ vs)[i]? = σ[i]?
  | [], _ => rfl
  | v :: vs, h => by
    simp only [List.mem_cons, not_or] at h
    unfold wipe
    rw [List.getElem?_set_ne (Ne.symm h.1)]
    exact wipe_keep h.2
theorem wipe_gone {σ : L2.St} {i : Nat} : ∀ {vs : List Nat}, i ∈ vs → (wipe σ vs)[i]? = σ[i]?.map fun _ => none
  | v :: vs, h => by
    unfold wipe
    by_cases e : v = i
    · subst e
      by_cases hv : v < σ.length
      · rw [List.getElem?_set_self (by rw [wipe_length]; exact hv)]
        simp [hv]
      · rw [List.getElem?_eq_none (by rw [List.length_set, wipe_length]; omega), List.getElem?_eq_none (by omega)]
        rfl
    · rw [List.getElem?_set_ne e]
      exact wipe_gone ((List.mem_cons.mp h).resolve_left fun z => e z.symm)
theorem wipe_eq {σ σ' : L2.St} {vs : List Nat} (hl : σ.length = σ'.length) (h : ∀ i, i ∉ vs → σ[i]? = σ'[i]?) : wipe σ vs = wipe σ' vs := by
  apply List.ext_getElem?
  intro i
  by_cases hi : i ∈ vs
  · rw [wipe_gone hi, wipe_gone hi]
    by_cases hv : i < σ.length
    · have : i < σ'.length := by omega
      simp [hv, this]
    · rw [List.getElem?_eq_none (by omega), List.getElem?_eq_none (by omega)]
  · rw [wipe_keep hi, wipe_keep hi]
    exact h i hi
theorem RepE.wipe {g : Gx} {w : Wo} {H : Hp} {ρ : Env} {σ : L2.St} (r : RepE g w H ρ σ) (vs : List Nat) : RepE g w H (wipeE ρ vs) (L2.wipe σ vs) :=
  ⟨by rw [wipeE_length, wipe_length]; exact r.len, fun i d e => by
    obtain ⟨e1, e2⟩ := wipeE_some e
    obtain ⟨v, h1, h2⟩ := r.at_ i d e1
    exact ⟨v, by rw [wipe_keep e2]; exact h1, h2⟩⟩

/-! ### targets that store in own slots alone -/
def Ag (vs : List Nat) (σ σ' : L2.St) : Prop := σ'.length = σ.length ∧ ∀ i, i ∉ vs → σ'[i]? = σ[i]?
def lGv (g : Gx) (f : GF) (vs : List Nat) : TG := fun v σ H Q => ∃ w ρ S d ρ' S', RepE g w H ρ σ ∧ RepS g w S H ∧ RepV g w H d v ∧ f d ρ S = some (ρ', S') ∧
  ∀ w' σ' H', Adv w H w' H' → RepE g w' H' ρ' σ' → RepS g w' S' H' → Ag vs σ σ' → Q σ' H'
def lGsv (g : Gx) (f : List D → Env → Store → Option (Env × Store)) (vs : List Nat) : TGs := fun us σ H Q => ∃ w ρ S ds ρ' S', RepE g w H ρ σ ∧ RepS g w S H ∧ RepVs g w H ds us ∧ f ds ρ S = some (ρ', S') ∧
  ∀ w' σ' H', Adv w H w' H' → RepE g w' H' ρ' σ' → RepS g w' S' H' → Ag vs σ σ' → Q σ' H'
abbrev GDv (X : Cx) (cl : Str → Option Addr) (e : Expr) (f : GF) (vs : List Nat) : Prop := PG X e (lGv (Cx.g X cl) f vs)
abbrev GsDv (X : Cx) (cl : Str → Option Addr) (es : List Expr) (f : List D → Env → Store → Option (Env × Store)) (vs : List Nat) : Prop := PGs X es (lGsv (Cx.g X cl) f vs)
section
variable {X : Cx} {cl : Str → Option Addr} {a : Expr} {es : List Expr} {vs : List Nat} {tg : GF} {u : List D → Env → Store → Option (Env × Store)} {pos : Pos}
theorem v_name (i : Nat) {x : Str} (hN : X.N.Nodup) (hv : i ∈ vs := by simp) (hi : X.N[i]? = some x := by rfl) (hx : Loc X.env.scope x := by first | exact Or.inl rfl | exact Or.inr rfl) (hf : X.fn x = true ∨ X.env.scope.names.lookup x = some .local := by first | exact .inl rfl | exact .inr rfl | assumption) : GDv X cl (.Name x pos) (gVar i) vs := PG.imp (pg_name hN hi hx hf) fun v σ H Q h => by
  obtain ⟨w, ρ, S, d, ρ', S', hE, hS, hd, hf, k⟩ := h
  cases hf
  refine k w _ H .refl ⟨by simp [hE.len], fun j z e => ?_⟩ hS ⟨by simp, fun j hj => List.getElem?_set_ne (by rintro rfl; exact hj hv)⟩
  by_cases hj : i = j
  · subst hj
    rw [List.getElem?_set] at e
    split at e
    · split at e
      · rename_i hlt
        cases e
        exact ⟨v, by rw [List.getElem?_set_self (by rw [← hE.len]; exact hlt)], hd⟩
      · cases e
    · rename_i hne; exact absurd rfl hne
  · rw [List.getElem?_set_ne hj] at e ⊢
    exact hE.at_ j z e
theorem vs_nil : GsDv X cl [] gNilF vs := PGs.imp pgs_nil fun us σ H Q h => by
  obtain ⟨w, ρ, S, ds, ρ', S', hE, hS, hd, hf, k⟩ := h
  cases ds with
  | nil =>
    cases hf
    exact ⟨by simpa [RepVs] using hd, k w σ H .refl hE hS ⟨rfl, fun _ _ => rfl⟩⟩
  | cons _ _ => cases hf
theorem vs_cons (h1 : GDv X cl a tg vs) (h2 : GsDv X cl es u vs)
    (hs : (assignEach (a :: es) X.env).map (·.2) = assign a X.env :: (assignEach es X.env).map (·.2) := by rfl) : GsDv X cl (a :: es) (gConsF tg u) vs := PGs.imp (pgs_cons h1 h2 hs) fun us σ H Q h => by
  obtain ⟨w, ρ, S, ds, ρ', S', hE, hS, hd, hf, k⟩ := h
  cases ds with
  | nil => cases hf
  | cons d ds =>
    simp only [RepVs] at hd
    obtain ⟨v, r, e, r1, r2⟩ := hd
    obtain ⟨⟨ρ1, S1⟩, h3, hf⟩ := obind hf
    refine ⟨v, r, e, w, ρ, S, d, ρ1, S1, hE, hS, r1, h3, fun w1 σ1 H1 a1 e1 s1 z1 => ⟨w1, ρ1, S1, ds, ρ', S', e1, s1, RepVs.adv a1 hS _ _ r2, hf, fun w2 σ2 H2 a2 e2 s2 z2 => k w2 σ2 H2 (a1.trans s1 a2) e2 s2 ⟨z2.1.trans z1.1, fun i hi => (z2.2 i hi).trans (z1.2 i hi)⟩⟩⟩
theorem v_tup {x1 : Nat} {n : Nat} (hc : X.calm = true) (h : GsDv X cl es u vs)
    (hn : (assignEach es X.env).length = n := by rfl) (hst : (assignEach es X.env).findIdx? (·.1) = none := by rfl) : GDv X cl (.Tuple es x1 pos) (gTupF n u) vs := PG.imp (pg_tup hc h hn hst) fun v σ H Q h => by
  obtain ⟨w, ρ, S, d, ρ', S', hE, hS, hd, hf, k⟩ := h
  cases d with
  | tup ds =>
    simp only [RepV] at hd
    obtain ⟨p, us, e, q, rs⟩ := hd
    change (if ds.length = n then u ds ρ S else none) = _ at hf
    split at hf
    · rename_i hl
      exact ⟨p, us, e, q, by rw [← rs.length]; exact hl, w, ρ, S, ds, ρ', S', hE, hS, rs, hf, k⟩
    · cases hf
  | _ => cases hf
end

/-! ### a clause's tests -/
abbrev TsD (X : Cx) (cl : Str → Option Addr) (ifs : List Expr) (f : TF) : Prop := PTs X ifs (lT (Cx.g X cl) f)
def tTrue : TF := fun _ S => some (true, S)
section
variable {X : Cx} {cl : Str → Option Addr} {c : Expr} {t : TF}
theorem ts_nil : TsD X cl [] tTrue := ⟨fun pins s σ H Q I h => pts_nil.run pins s σ H Q I (by
  obtain ⟨w, ρ, S, b, S', hE, hS, hf, k⟩ := h
  cases hf
  exact k.now hS)⟩
theorem ts_one (h : TD X cl c t) : TsD X cl [c] t := pts_one h
end

/-! ### comprehensions -/
noncomputable def compGo (ok : Store → Prop) (tg : GF) (c : TF) (elt : EF) (ρ : Env) : List D → Store → Option (List D × Store)
  | [], S => if ok S then some ([], S) else none
  | d :: ds, S => if ok S then (tg d ρ S).bind fun r => (c r.1 r.2).bind fun b => if b.1 = true then (elt r.1 b.2).bind fun y => (compGo ok tg c elt ρ ds y.2).bind fun q => some (y.1 :: q.1, q.2)
      else compGo ok tg c elt ρ ds b.2
    else none
noncomputable def aComp (iF : IF) (tg : GF) (c : TF) (elt : EF) (own : List Nat) : AF := fun ρ S => (iF ρ S).bind fun r => if r.1.items.length ≤ 1000000 then compGo r.1.ok tg c elt (wipeE ρ own) r.1.items r.2 else none

theorem lc_read {g : Gx} {iF : IF} {tg : GF} {c : TF} {fe : EF} {vs : List Nat} {σ : L2.St} {H : Hp} {Q : VK} (h : lL g (aComp iF tg c fe vs) σ H Q) : tLc (lI g iF) (lGv g tg vs) (lT g c) (lE g fe) vs σ H Q := by
  obtain ⟨w, ρ, S, ds, Sf, hE, hS, hf, k⟩ := h
  obtain ⟨⟨src, S1⟩, h1, hf⟩ := obind hf
  dsimp only at hf
  split at hf
  · rename_i hlen
    refine ⟨w, ρ, S, src, S1, hE, hS, h1, fun w1 H1 J a1 s1 sim D hD => ?_⟩
    have hE1 := (hE.adv a1 hS).wipe vs
    refine ⟨fun i m H' => m = src.items.length - i ∧ i ≤ src.items.length ∧ ∃ w' S' acc vacc rest, Adv w1 H1 w' H' ∧ D ∈ w'.be ∧ RepS g w' S' H' ∧ H' D = some (.lst vacc) ∧ RepVs g w' H' acc vacc ∧ acc.length ≤ i ∧
      compGo src.ok tg c fe (wipeE ρ vs) (src.items.drop i) S' = some (rest, Sf) ∧ ds = acc ++ rest,
      ⟨_, rfl, Nat.zero_le _, w1.ban D, S1, [], [], ds, Adv.ban hD, List.mem_cons_self, s1.ban hD, upd_same, by simp [RepVs], Nat.zero_le _, hf, rfl⟩, ?_⟩
    rintro i m H' ⟨rfl, hi, w', S', acc, vacc, rest, a', hb, s', hDl, ra, hal, hf', rfl⟩
    by_cases hlt : i < src.items.length
    · rw [List.drop_eq_getElem_cons hlt] at hf'
      unfold compGo at hf'
      split at hf'
      · rename_i hok
        obtain ⟨⟨ρ2, S2⟩, h2, hf'⟩ := obind hf'
        obtain ⟨⟨b, S3⟩, h3, hf'⟩ := obind hf'
        obtain ⟨go, _⟩ := sim w' S' H' a' s' hok
        obtain ⟨go, yl⟩ := go i hlt
        refine .inr ⟨go, fun H'' => ∃ w' S' acc' vacc rest', Adv w1 H1 w' H'' ∧ D ∈ w'.be ∧ RepS g w' S' H'' ∧ H'' D = some (.lst vacc) ∧ RepVs g w' H'' acc' vacc ∧ acc'.length ≤ i + 1 ∧
          compGo src.ok tg c fe (wipeE ρ vs) (src.items.drop (i + 1)) S' = some (rest', Sf) ∧ acc ++ rest = acc' ++ rest', fun H'' q => ⟨_, by omega, rfl, hlt, q⟩, fun x Hx y => ?_⟩
        obtain ⟨d, hd, ax, sx, rx⟩ := yl x Hx y
        have hd' : d = src.items[i] := by
          rw [List.getElem?_eq_getElem hlt] at hd
          exact (Option.some.inj hd).symm
        subst hd'
        have hEx := (hE1.adv a' s1).adv ax s'
        refine ⟨w', wipeE ρ vs, S', _, ρ2, S2, hEx, sx, rx, h2, fun w2 σ2 H2 a2 e2 s2 z2 => ⟨?_, ?_⟩⟩
        · exact wipe_eq (z2.1.trans (wipe_length σ vs)) fun j hj => (z2.2 j hj).trans (wipe_keep hj)
        · refine ⟨w2, ρ2, S2, b, S3, e2, s2, h3, fun w3 H3 a3 s3 => ?_⟩
          have a13 : Adv w1 H1 w3 H3 := (((a'.trans s' ax).trans sx a2).trans s2 a3)
          have b3 : D ∈ w3.be := a3.be1 D (a2.be1 D (ax.be1 D hb))
          have D3 : H3 D = some (.lst vacc) := a3.ext D _ (a2.ext D _ (ax.ext D _ hDl (s'.ne D hb)) (sx.ne D (ax.be1 D hb))) (s2.ne D (a2.be1 D (ax.be1 D hb)))
          have r3 : RepVs g w3 H3 acc vacc := RepVs.adv a3 s2 _ _ (RepVs.adv a2 sx _ _ (RepVs.adv ax s' _ _ ra))
          cases b with
          | false =>
            refine iteF ?_
            exact ⟨w3, S3, acc, vacc, rest, a13, b3, s3, D3, r3, by omega, hf', rfl⟩
          | true =>
            refine iteT ?_
            obtain ⟨⟨y, S4⟩, h4, hf'⟩ := obind hf'
            obtain ⟨⟨ys, S5⟩, h5, hf'⟩ := obind hf'
            cases hf'
            refine ⟨w3, ρ2, S3, y, S4, e2.adv a3 s2, s3, h4, fun w4 H4 yv a4 s4 ry => ?_⟩
            have b4 : D ∈ w4.be := a4.be1 D b3
            have D4 : H4 D = some (.lst vacc) := a4.ext D _ D3 (s3.ne D b3)
            have r4 : RepVs g w4 H4 acc vacc := RepVs.adv a4 s3 _ _ r3
            refine ⟨vacc, D4, ?_, w4, S4, acc ++ [y], vacc ++ [yv], ys, (a13.trans s3 a4).updB hD, b4, s4.updB b4, upd_same, RepVs.updB b4 D4 _ _ (r4.append (RepVs.one ry)), ?_, h5, by simp⟩
            · rw [← ra.length]
              exact Nat.lt_of_lt_of_le (show acc.length < 1000000 by omega) million
            · rw [List.length_append]
              simp only [List.length_singleton]
              omega
      · cases hf'
    · have e : i = src.items.length := by omega
      subst e
      rw [List.drop_length] at hf'
      unfold compGo at hf'
      split at hf'
      · rename_i hok
        cases hf'
        obtain ⟨_, stop⟩ := sim w' _ H' a' s' hok
        refine .inl ⟨stop, ?_⟩
        rw [List.append_nil] at k
        exact k w' H' vacc D (a1.trans s1 a') hb s' hDl ra (a1.back s1 hD)
      · cases hf'
  · cases hf

section
variable {X : Cx} {cl : Str → Option Addr} {elt tg iter : Expr} {ifs : List Expr} {scope : Scope} {own : List (Str × Nat)} {pos : Pos} {iF : IF} {t : GF} {c : TF} {fe : EF}
theorem l_comp (own : List (Str × Nat)) (hc : X.calm = true) (hN : X.N.Nodup) (hi : ID X cl tg iter iF) (ok : BlkOk X.N X.env.scope scope own)
    (hg : ∀ (s : Shared) (H : Hp) (C : Addr) (cls : List (Str × Addr)) (fp : List Addr), GDv (X.blk s H scope (compEnvC scope cls C X.env) fp) cl tg t (own.map (·.2)))
    (ht : ∀ (s : Shared) (H : Hp) (C : Addr) (cls : List (Str × Addr)) (fp : List Addr), TsD (X.blk s H scope (compEnvC scope cls C X.env) fp) cl ifs c)
    (he : ∀ (s : Shared) (H : Hp) (C : Addr) (cls : List (Str × Addr)) (fp : List Addr), PD (X.blk s H scope (compEnvC scope cls C X.env) fp) cl elt fe) (hs : ∀ x, foldedSetIterable iter X.env x = pure x := by intro _; rfl) :
    LD X cl (.ListComp elt [⟨tg, iter, ifs, 0⟩] scope pos) (aComp iF t c fe (own.map (·.2))) := PE.imp (pe_lc hc hN hi ok hg ht he hs) fun σ H Q h => lc_read h
/-- y = [..] -/
theorem s_setLc (own : List (Str × Nat)) {i : Nat} {y : Str} {py spos : Pos} (hc : X.calm = true) (hN : X.N.Nodup) (hy : X.N[i]? = some y) (hyl : X.env.scope.names.lookup y = some .local)
    (hsw : swapsWith (.ListComp elt [⟨tg, iter, ifs, 0⟩] scope pos) (some (.Name y py)) spos.line X.env = pure true) (hi : ID X cl tg iter iF) (ok : BlkOk X.N X.env.scope scope own)
    (hg : ∀ (s : Shared) (H : Hp) (C : Addr) (cls : List (Str × Addr)) (fp : List Addr), GDv (X.blk s H scope (compEnvC scope cls C X.env) fp) cl tg t (own.map (·.2)))
    (ht : ∀ (s : Shared) (H : Hp) (C : Addr) (cls : List (Str × Addr)) (fp : List Addr), TsD (X.blk s H scope (compEnvC scope cls C X.env) fp) cl ifs c)
    (he : ∀ (s : Shared) (H : Hp) (C : Addr) (cls : List (Str × Addr)) (fp : List Addr), PD (X.blk s H scope (compEnvC scope cls C X.env) fp) cl elt fe) (hs : ∀ x, foldedSetIterable iter X.env x = pure x := by intro _; rfl)
    {fl : EF} (hfl : ∀ σ H Q, lE (Cx.g X cl) fl σ H Q → lL (Cx.g X cl) (aComp iF t c fe (own.map (·.2))) σ H Q) :
    SD X cl (.Assign [.Name y py] (.ListComp elt [⟨tg, iter, ifs, 0⟩] scope pos) spos) (sAsg fl (gVar i)) := PS.imp (ps_setLc hc hN hy hyl hsw hi ok hg ht he hs) fun D σ H h => by
  refine lc_read (hfl _ _ _ ?_)
  obtain ⟨w, ρ, S, r, hE, hS, hf, k⟩ := h
  obtain ⟨⟨x, S1⟩, h1, hf⟩ := obind hf
  cases hf
  refine ⟨w, ρ, S, x, S1, hE, hS, h1, fun w1 H1 v a1 s1 r1 => ?_⟩
  refine (show KG1 _ w H (ρ.set i (some x)) S1 D.nx from k) w1 _ H1 a1 ⟨by simp [hE.len], fun j z e => ?_⟩ s1
  have hE1 := hE.adv a1 hS
  by_cases hj : i = j
  · subst hj
    rw [List.getElem?_set] at e
    split at e
    · split at e
      · rename_i hlt
        cases e
        exact ⟨v, by rw [List.getElem?_set_self (by rw [← hE.len]; exact hlt)], r1⟩
      · cases e
    · rename_i hne; exact absurd rfl hne
  · rw [List.getElem?_set_ne hj] at e ⊢
    exact hE1.at_ j z e
theorem fz_imp {g : Gx} {f : AF} (σ : L2.St) (H : Hp) (Q : VK) (h : lE g (eFz f) σ H Q) : lL g f σ H Q := by
  obtain ⟨w, ρ, S, d, S', hE, hS, hf, k⟩ := h
  obtain ⟨⟨x, S1⟩, h1, hf⟩ := obind hf
  cases hf
  exact ⟨w, ρ, S, x, S1, hE, hS, h1, kl_fz hS k⟩
theorem ce_imp {g : Gx} {f : AF} (σ : L2.St) (H : Hp) (Q : VK) (h : lE g (eCe f) σ H Q) : lL g f σ H Q := by
  obtain ⟨w, ρ, S, d, S', hE, hS, hf, k⟩ := h
  obtain ⟨⟨x, S1⟩, h1, hf⟩ := obind hf
  cases hf
  exact ⟨w, ρ, S, x, S1, hE, hS, h1, kl_ce hS k⟩
end
end DZ

/-! DzG: what a def leaves (freezing), fields, calls of defs, methods, new instances. -/
namespace DZ
open PySem PySem.Spec PyProof.Rows L2
open Classical

/-! ### freezing -/
def frzL (f : D → Option D) : List D → Option (List D)
  | [] => some []
  | d :: ds => (f d).bind fun x => (frzL f ds).bind fun r => some (x :: r)
def frzF (f : D → Option D) : List (Str × D) → Option (List (Str × D))
  | [] => some []
  | (x, d) :: ds => (f d).bind fun y => (frzF f ds).bind fun r => some ((x, y) :: r)
/-- what stood at n0 or above becomes a thing that is never changed again -/
def frz (S : Store) (n0 : Nat) : Nat → D → Option D
  | 0, _ => none
  | k + 1, d => match d with
    | .loc n => if n < n0 then some (.loc n) else match S[n]? with
      | some (.lst xs) => (frzL (frz S n0 k) xs).map .lst
      | some (.ins c fs) => (frzF (frz S n0 k) fs).map (.obj c)
      | _ => none
    | .tup xs => (frzL (frz S n0 k) xs).map .tup
    | .lst xs => (frzL (frz S n0 k) xs).map .lst
    | .obj c fs => (frzF (frz S n0 k) fs).map (.obj c)
    | d => some d
mutual
def D.bel (n0 : Nat) : D → Prop
  | .tup xs => D.belL n0 xs
  | .lst xs => D.belL n0 xs
  | .obj _ fs => D.belF n0 fs
  | .loc n => n < n0
  | .non => True
  | .bl _ => True
  | .int _ => True
  | .str _ => True
  | .scr _ => True
def D.belL (n0 : Nat) : List D → Prop
  | [] => True
  | d :: ds => D.bel n0 d ∧ D.belL n0 ds
def D.belF (n0 : Nat) : List (Str × D) → Prop
  | [] => True
  | (_, d) :: ds => D.bel n0 d ∧ D.belF n0 ds
end
def D.belK (n0 : Nat) : List (Key × D) → Prop
  | [] => True
  | (_, d) :: ds => D.bel n0 d ∧ D.belK n0 ds
def Cell.bel (n0 : Nat) : Cell → Prop
  | .lst xs => D.belL n0 xs
  | .dct kvs => D.belK n0 kvs
  | .ins _ fs => D.belF n0 fs
  | .lck kvs => D.belK n0 kvs
/-- the old objects hold nothing new -/
def Closed (S S' : Store) : Prop := S.length ≤ S'.length ∧ ∀ i, i < S.length → S'[i]? = S[i]? ∨ ∃ c, S'[i]? = some c ∧ c.bel S.length
def frzDeep : Nat := 6
noncomputable def drop (S : Store) (r : D × Store) : Option (D × Store) := if Closed S r.2 then (frz r.2 S.length frzDeep r.1).bind fun d => some (d, r.2.take S.length) else none
/-- a def that leaves no mutable object behind -/
noncomputable def dropF (F : FF) : FF := fun ds S => (F ds S).bind (drop S)
noncomputable def eDrop (f : EF) : EF := fun ρ S => (f ρ S).bind (drop S)

section
variable {g : Gx} {w w' : Wo} {H H' : Hp} {S S' : Store} {d : D} {v : V} {n0 : Nat}
mutual
theorem RepV.bel : ∀ (d : D) (v : V), RepV g w H d v → D.bel w.io.length d
  | .non, _, _ => by simp only [D.bel]
  | .bl _, _, _ => by simp only [D.bel]
  | .int _, _, _ => by simp only [D.bel]
  | .str _, _, _ => by simp only [D.bel]
  | .scr _, _, _ => by simp only [D.bel]
  | .tup xs, v, r => by
    simp only [RepV] at r
    simp only [D.bel]
    obtain ⟨p, vs, e, q, rs⟩ := r
    exact RepVs.bel xs vs rs
  | .lst xs, v, r => by
    simp only [RepV] at r
    simp only [D.bel]
    obtain ⟨p, vs, e, q, _, rs⟩ := r
    exact RepVs.bel xs vs rs
  | .obj c fs, v, r => by
    simp only [RepV] at r
    simp only [D.bel]
    obtain ⟨p, C, dx, vs, e, _, _, _, rs⟩ := r
    exact RepFs.bel fs vs rs
  | .loc n, v, r => by
    simp only [RepV] at r
    simp only [D.bel]
    obtain ⟨p, q, e⟩ := r
    exact (List.getElem?_eq_some_iff.mp q).1
theorem RepVs.bel : ∀ (ds : List D) (vs : List V), RepVs g w H ds vs → D.belL w.io.length ds
  | [], _, _ => by simp only [D.belL]
  | d :: ds, vs, r => by
    simp only [RepVs] at r
    simp only [D.belL]
    obtain ⟨v, t, e, r1, r2⟩ := r
    exact ⟨RepV.bel d v r1, RepVs.bel ds t r2⟩
theorem RepFs.bel : ∀ (ds : List (Str × D)) (vs : List (Str × V)), RepFs g w H ds vs → D.belF w.io.length ds
  | [], _, _ => by simp only [D.belF]
  | (x, d) :: ds, vs, r => by
    simp only [RepFs] at r
    simp only [D.belF]
    obtain ⟨v, t, e, r1, r2⟩ := r
    exact ⟨RepV.bel d v r1, RepFs.bel ds t r2⟩
end
theorem RepKs.bel : ∀ (ds : List (Key × D)) (vs : List (Key × V)), RepKs g w H ds vs → D.belK w.io.length ds
  | [], _, _ => by simp only [D.belK]
  | (x, d) :: ds, vs, r => by
    simp only [RepKs] at r
    simp only [D.belK]
    obtain ⟨v, t, e, r1, r2⟩ := r
    exact ⟨RepV.bel d v r1, RepKs.bel ds t r2⟩
def Wo.cut (w : Wo) (n0 : Nat) : Wo := ⟨w.io.take n0, w.be⟩
theorem cut_no {q : Addr} (h : w.no q) : (w.cut n0).no q := ⟨fun z => h.1 (List.mem_of_mem_take z), h.2⟩
theorem cut_io {n : Nat} {q : Addr} (hn : n < n0) (h : w.io[n]? = some q) : (w.cut n0).io[n]? = some q := by
  show (w.io.take n0)[n]? = _
  rw [List.getElem?_take_of_lt hn]
  exact h
mutual
theorem RepV.cut : ∀ (d : D) (v : V), D.bel n0 d → RepV g w H d v → RepV g (w.cut n0) H d v
  | .non, _, _, r => by simpa [RepV] using r
  | .bl _, _, _, r => by simpa [RepV] using r
  | .int _, _, _, r => by simpa [RepV] using r
  | .str _, _, _, r => by simpa [RepV] using r
  | .tup xs, v, b, r => by
    simp only [RepV] at r ⊢
    simp only [D.bel] at b
    obtain ⟨p, vs, e, q, rs⟩ := r
    exact ⟨p, vs, e, q, RepVs.cut xs vs b rs⟩
  | .lst xs, v, b, r => by
    simp only [RepV] at r ⊢
    simp only [D.bel] at b
    obtain ⟨p, vs, e, q, n, rs⟩ := r
    exact ⟨p, vs, e, q, cut_no n, RepVs.cut xs vs b rs⟩
  | .scr ns, v, b, r => by
    simp only [RepV] at r ⊢
    obtain ⟨p, e, q⟩ := r
    refine ⟨p, e, ?_⟩
    rcases q with ⟨q, n⟩ | q
    · exact .inl ⟨q, cut_no n⟩
    · exact .inr q
  | .obj c fs, v, b, r => by
    simp only [RepV] at r ⊢
    simp only [D.bel] at b
    obtain ⟨p, C, dx, vs, e, hc, q, n, rs⟩ := r
    exact ⟨p, C, dx, vs, e, hc, q, cut_no n, RepFs.cut fs vs b rs⟩
  | .loc n, v, b, r => by
    simp only [RepV] at r ⊢
    simp only [D.bel] at b
    obtain ⟨p, q, e⟩ := r
    exact ⟨p, cut_io b q, e⟩
theorem RepVs.cut : ∀ (ds : List D) (vs : List V), D.belL n0 ds → RepVs g w H ds vs → RepVs g (w.cut n0) H ds vs
  | [], _, _, r => by simpa [RepVs] using r
  | d :: ds, vs, b, r => by
    simp only [RepVs] at r ⊢
    simp only [D.belL] at b
    obtain ⟨v, t, e, r1, r2⟩ := r
    exact ⟨v, t, e, RepV.cut d v b.1 r1, RepVs.cut ds t b.2 r2⟩
theorem RepFs.cut : ∀ (ds : List (Str × D)) (vs : List (Str × V)), D.belF n0 ds → RepFs g w H ds vs → RepFs g (w.cut n0) H ds vs
  | [], _, _, r => by simpa [RepFs] using r
  | (x, d) :: ds, vs, b, r => by
    simp only [RepFs] at r ⊢
    simp only [D.belF] at b
    obtain ⟨v, t, e, r1, r2⟩ := r
    exact ⟨v, t, e, RepV.cut d v b.1 r1, RepFs.cut ds t b.2 r2⟩
end
theorem RepKs.cut : ∀ (ds : List (Key × D)) (vs : List (Key × V)), D.belK n0 ds → RepKs g w H ds vs → RepKs g (w.cut n0) H ds vs
  | [], _, _, r => by simpa [RepKs] using r
  | (x, d) :: ds, vs, b, r => by
    simp only [RepKs] at r ⊢
    simp only [D.belK] at b
    obtain ⟨v, t, e, r1, r2⟩ := r
    exact ⟨v, t, e, RepV.cut d v b.1 r1, RepKs.cut ds t b.2 r2⟩
theorem CellAt.bel {p : Addr} {c : Cell} (h : CellAt g w H p c) : c.bel w.io.length := by
  cases c with
  | lst xs => obtain ⟨vs, _, r⟩ := h; exact RepVs.bel _ _ r
  | dct kvs => obtain ⟨vs, _, r⟩ := h; exact RepKs.bel _ _ r
  | ins c fs => obtain ⟨C, dx, vs, _, _, r⟩ := h; exact RepFs.bel _ _ r
  | lck kvs => obtain ⟨o, vs, _, r⟩ := h; exact RepKs.bel _ _ r
theorem CellAt.cut {p : Addr} {c : Cell} (b : c.bel n0) (h : CellAt g w H p c) : CellAt g (w.cut n0) H p c := by
  cases c with
  | lst xs => obtain ⟨vs, q, r⟩ := h; exact ⟨vs, q, RepVs.cut _ _ b r⟩
  | dct kvs => obtain ⟨vs, q, r⟩ := h; exact ⟨vs, q, RepKs.cut _ _ b r⟩
  | ins c fs => obtain ⟨C, dx, vs, e, q, r⟩ := h; exact ⟨C, dx, vs, e, q, RepFs.cut _ _ b r⟩
  | lck kvs => obtain ⟨o, vs, q, r⟩ := h; exact ⟨o, vs, q, RepKs.cut _ _ b r⟩
/-- the store cut back -/
theorem RepS.cut (s : RepS g w S H) (s' : RepS g w' S' H') (c : Closed S S') : RepS g (w'.cut S.length) (S'.take S.length) H' := by
  refine ⟨?_, ?_, fun n ce p e1 e2 => ?_, s'.be, fun q hq z => s'.ne q hq (List.mem_of_mem_take z)⟩
  · show (w'.io.take S.length).length = _
    rw [List.length_take, List.length_take, s'.len]
  · exact List.Sublist.nodup (List.take_sublist _ _) s'.nd
  · have hn : n < S.length := by
      have := (List.getElem?_eq_some_iff.mp e1).1
      rw [List.length_take] at this
      omega
    rw [List.getElem?_take_of_lt hn] at e1
    have e2 : (w'.io.take S.length)[n]? = some p := e2
    rw [List.getElem?_take_of_lt hn] at e2
    have z := s'.at_ n ce p e1 e2
    refine z.cut ?_
    rcases c.2 n hn with h | ⟨c2, h, b⟩
    · rw [e1] at h
      obtain ⟨p0, hp0⟩ : ∃ p0, w.io[n]? = some p0 := ⟨w.io[n]'(by rw [s.len]; exact hn), by simp⟩
      have := (s.at_ n ce p0 h.symm hp0).bel
      rw [s.len] at this
      exact this
    · rw [e1] at h
      cases h
      exact b
theorem cut_adv (s : RepS g w S H) (a : Adv w H w' H') : Adv w H (w'.cut S.length) H' := by
  obtain ⟨l, el, hl⟩ := a.pre
  refine ⟨a.ext, ⟨[], ?_, by simp⟩, a.be1, a.be2, a.fr⟩
  show w'.io.take S.length = _
  rw [el, List.append_nil, ← s.len, List.take_left]
theorem frzL_rep {f : D → Option D} {w2 : Wo} (hf : ∀ d v d', RepV g w H d v → f d = some d' → RepV g w2 H d' v) : ∀ {ds : List D} {vs : List V} {ds' : List D}, RepVs g w H ds vs → frzL f ds = some ds' → RepVs g w2 H ds' vs
  | [], vs, ds', r, e => by cases e; simpa [RepVs] using r
  | d :: ds, vs, ds', r, e => by
    simp only [RepVs] at r
    obtain ⟨v, t, rfl, r1, r2⟩ := r
    obtain ⟨x, e1, e⟩ := obind e
    obtain ⟨xs, e2, e⟩ := obind e
    cases e
    simp only [RepVs]
    exact ⟨v, t, rfl, hf d v x r1 e1, frzL_rep hf r2 e2⟩
theorem frzF_rep {f : D → Option D} {w2 : Wo} (hf : ∀ d v d', RepV g w H d v → f d = some d' → RepV g w2 H d' v) : ∀ {ds : List (Str × D)} {vs : List (Str × V)} {ds' : List (Str × D)}, RepFs g w H ds vs → frzF f ds = some ds' → RepFs g w2 H ds' vs
  | [], vs, ds', r, e => by cases e; simpa [RepFs] using r
  | (y, d) :: ds, vs, ds', r, e => by
    simp only [RepFs] at r
    obtain ⟨v, t, rfl, r1, r2⟩ := r
    obtain ⟨x, e1, e⟩ := obind e
    obtain ⟨xs, e2, e⟩ := obind e
    cases e
    simp only [RepFs]
    exact ⟨v, t, rfl, hf d v x r1 e1, frzF_rep hf r2 e2⟩
theorem frz_rep (s : RepS g w S H) : ∀ (k : Nat) (d : D) (v : V) (d' : D), RepV g w H d v → frz S n0 k d = some d' → RepV g (w.cut n0) H d' v
  | 0, _, _, _, _, e => by cases e
  | k + 1, d, v, d', r, e => by
    have ih := frz_rep s k
    have atom : D.bel n0 d → RepV g (w.cut n0) H d v := fun b => RepV.cut d v b r
    cases d with
    | loc n =>
      unfold frz at e
      dsimp only at e
      split at e
      · rename_i hn
        cases e
        exact atom (by simp only [D.bel]; exact hn)
      · rename_i hn
        simp only [RepV] at r
        obtain ⟨p, hp, rfl⟩ := r
        obtain ⟨c, hc, hcell⟩ := s.cell hp
        have out : (w.cut n0).no p := by
          refine ⟨fun z => ?_, fun z => s.ne p z (List.mem_of_getElem? hp)⟩
          obtain ⟨m, hm, em⟩ := List.getElem_of_mem (show p ∈ w.io.take n0 from z)
          rw [List.length_take] at hm
          have hm' : m < w.io.length := by omega
          have e1 : w.io[m] = p := by
            rw [List.getElem_take] at em
            exact em
          have e2 : m = n := by
            obtain ⟨hn', en⟩ := List.getElem?_eq_some_iff.mp hp
            exact (List.getElem_inj s.nd).mp (e1.trans en.symm)
          omega
        rw [hc] at e
        cases c with
        | lst xs =>
          obtain ⟨ys, e1, rfl⟩ := Option.map_eq_some_iff.mp e
          obtain ⟨vs, q, rs⟩ := hcell
          simp only [RepV]
          exact ⟨p, vs, rfl, q, out, frzL_rep ih rs e1⟩
        | ins c fs =>
          obtain ⟨ys, e1, rfl⟩ := Option.map_eq_some_iff.mp e
          obtain ⟨C, dx, vs, hC, q, rs⟩ := hcell
          simp only [RepV]
          exact ⟨p, C, dx, vs, rfl, hC, q, out, frzF_rep ih rs e1⟩
        | dct _ => cases e
        | lck _ => cases e
    | tup xs =>
      obtain ⟨ys, e1, rfl⟩ := Option.map_eq_some_iff.mp e
      simp only [RepV] at r ⊢
      obtain ⟨p, vs, rfl, q, rs⟩ := r
      exact ⟨p, vs, rfl, q, frzL_rep ih rs e1⟩
    | lst xs =>
      obtain ⟨ys, e1, rfl⟩ := Option.map_eq_some_iff.mp e
      simp only [RepV] at r ⊢
      obtain ⟨p, vs, rfl, q, n, rs⟩ := r
      exact ⟨p, vs, rfl, q, cut_no n, frzL_rep ih rs e1⟩
    | obj c fs =>
      obtain ⟨ys, e1, rfl⟩ := Option.map_eq_some_iff.mp e
      simp only [RepV] at r ⊢
      obtain ⟨p, C, dx, vs, rfl, hC, q, n, rs⟩ := r
      exact ⟨p, C, dx, vs, rfl, hC, q, cut_no n, frzF_rep ih rs e1⟩
    | non => cases e; exact atom (by simp only [D.bel])
    | bl _ => cases e; exact atom (by simp only [D.bel])
    | int _ => cases e; exact atom (by simp only [D.bel])
    | str _ => cases e; exact atom (by simp only [D.bel])
    | scr _ => cases e; exact atom (by simp only [D.bel])
theorem drop_KV {r : D × Store} {d' : D} {S'' : Store} {Q : VK} (s : RepS g w S H) (e : drop S r = some (d', S'')) (k : KV1 g w H d' S'' Q) : KV1 g w H r.1 r.2 Q := by
  unfold drop at e
  split at e
  · rename_i hc
    obtain ⟨x, e1, e⟩ := obind e
    cases e
    exact fun w' H' v a' s' rv => k (w'.cut S.length) H' v (cut_adv s a') (s.cut s' hc) (frz_rep s' _ _ _ _ rv e1)
  · cases e
theorem dropF_C {F : FF} {vs : List V} {Q : VK} (h : lC g (dropF F) vs H Q) : lC g F vs H Q := by
  obtain ⟨w, S, ds, d, S', s, r, hf, k⟩ := h
  obtain ⟨⟨x, S1⟩, h1, hf⟩ := obind hf
  exact ⟨w, S, ds, x, S1, s, r, h1, drop_KV s hf k⟩
end
theorem d_drop {X : Cx} {cl : Str → Option Addr} {e : Expr} {f : EF} (h : PD X cl e f) : PD X cl e (eDrop f) := PE.imp h fun σ H Q hh => by
  obtain ⟨w, ρ, S, d, S', hE, hS, hf, k⟩ := hh
  obtain ⟨⟨x, S1⟩, h1, hf⟩ := obind hf
  exact ⟨w, ρ, S, x, S1, hE, hS, h1, drop_KV hS hf k⟩
end DZ

/-! DzH: fields, calls of defs, methods, new instances; stores; lists' methods; built-ins. -/
namespace DZ
open PySem PySem.Spec PyProof.Rows L2
open Classical

/-! ### a mutable object is changed -/
section
variable {g : Gx} {w w' : Wo} {H H' : Hp} {S S' : Store} {d : D} {v : V} {n : Nat} {p : Addr} {o : HO} {c : Cell}
theorem nfL {vs : List V} (q : H p = some (.lst vs)) : ∀ ob u, H p ≠ some (.frz ob u) := fun ob u z => by rw [q] at z; cases z
theorem nfK {vs : List (Key × V)} (q : H p = some (.dK vs)) : ∀ ob u, H p ≠ some (.frz ob u) := fun ob u z => by rw [q] at z; cases z
theorem nfI {C dx : Addr} {vs : List (Str × V)} (q : H p = some (.ins C dx vs)) : ∀ ob u, H p ≠ some (.frz ob u) := fun ob u z => by rw [q] at z; cases z
theorem Adv.write (hp : w.io[n]? = some p) (nf : ∀ ob u, H p ≠ some (.frz ob u)) : Adv w H w (upd H p o) :=
  ⟨fun q u e hq => by rw [upd_ne (by rintro rfl; exact hq (List.mem_of_getElem? hp))]; exact e, ⟨[], by simp, by simp⟩, fun _ h => h, fun _ h => .inl h, fun q b u e => by rw [upd_ne (by rintro rfl; exact nf _ _ e)]; exact e⟩
theorem RepS.write (s : RepS g w S H) (hp : w.io[n]? = some p) (nf : ∀ ob u, H p ≠ some (.frz ob u)) (r : CellAt g w (upd H p o) p c) : RepS g w (S.set n c) (upd H p o) := by
  refine ⟨by rw [List.length_set]; exact s.len, s.nd, fun m ce q e1 e2 => ?_, fun q hq => ?_, s.ne⟩
  · by_cases h : m = n
    · subst h
      rw [hp] at e2; cases e2
      have hm : m < S.length := by rw [← s.len]; exact (List.getElem?_eq_some_iff.mp hp).1
      rw [List.getElem?_set_self hm] at e1
      cases e1
      exact r
    · rw [List.getElem?_set_ne (Ne.symm h)] at e1
      have hq : q ≠ p := by
        rintro rfl
        obtain ⟨h1, f1⟩ := List.getElem?_eq_some_iff.mp hp
        obtain ⟨h2, f2⟩ := List.getElem?_eq_some_iff.mp e2
        exact h ((List.getElem_inj s.nd).mp (f2.trans f1.symm))
      exact (s.at_ m ce q e1 e2).adv (Adv.write hp nf) s (upd_ne hq)
  · rw [upd_ne (by rintro rfl; exact s.ne _ hq (List.mem_of_getElem? hp))]
    exact s.be q hq
/-- a list changed in place -/
theorem KV1.writeL {xs : List D} {vs : List V} {Q : VK} {u : V} (k : KV1 g w H d (S.set n (.lst xs)) Q) (s : RepS g w S H) (hp : w.io[n]? = some p) {us : List V} (q : H p = some (.lst us)) (r : RepVs g w H xs vs) (ru : RepV g w (upd H p (.lst vs)) d u) : Q u (upd H p (.lst vs)) :=
  k w _ _ (Adv.write hp (nfL q)) (s.write hp (nfL q) ⟨vs, upd_same, RepVs.adv (Adv.write hp (nfL q)) s _ _ r⟩) ru
theorem locL {xs : List D} (s : RepS g w S H) (r : RepV g w H (.loc n) v) (e : S[n]? = some (.lst xs)) : ∃ p vs, v = .ref p ∧ w.io[n]? = some p ∧ H p = some (.lst vs) ∧ RepVs g w H xs vs := by
  simp only [RepV] at r
  obtain ⟨p, hp, rfl⟩ := r
  obtain ⟨vs, q, rs⟩ := s.at_ n _ p e hp
  exact ⟨p, vs, rfl, hp, q, rs⟩
end

/-! ### fields -/
def putD (f : Str) (v : D) : List (Str × D) → List (Str × D)
  | [] => [(f, v)]
  | (g, x) :: r => if g = f then (g, v) :: r else (g, x) :: putD f v r
/-- an instance's class and fields -/
def insOf (S : Store) : D → Option (Str × List (Str × D))
  | .obj c fs => some (c, fs)
  | .loc n => match S[n]? with
    | some (.ins c fs) => some (c, fs)
    | _ => none
  | _ => none
/-- e.f where e is of one of the classes cs -/
def eFld (cs : List Str) (f : Str) (fa : EF) : EF := fun ρ S => (fa ρ S).bind fun r => (insOf r.2 r.1).bind fun q => if q.1 ∈ cs then (q.2.lookup f).bind fun d => some (d, r.2) else none
/-- e.f = v -/
def sFldD (cs : List Str) (f : Str) (fo fv : EF) : SF := fun ρ S => (fv ρ S).bind fun y => (fo ρ y.2).bind fun r => match r.1 with
  | .loc n => match r.2[n]? with
    | some (.ins c fs) => if c ∈ cs ∧ fs.length < 1000 then some (.nx, ρ, r.2.set n (.ins c (putD f y.1 fs))) else none
    | _ => none
  | _ => none
structure ClsD (X : Cx) (cl : Str → Option Addr) (c : Str) : Prop where
  ex : ∃ C, cl c = some C ∧ Cls X.K C
def FldOk (X : Cx) (cl : Str → Option Addr) (cs : List Str) (f : Str) : Prop := ∀ c ∈ cs, ∃ C, cl c = some C ∧ Cls X.K C ∧ NoAttr X.K C f

section
variable {g : Gx} {w w' : Wo} {H H' : Hp} {S S' : Store} {d : D} {v : V} {n : Nat} {p : Addr} {f : Str}
theorem RepFs.lookup : ∀ {fs : List (Str × D)} {vs : List (Str × V)}, RepFs g w H fs vs → fs.lookup f = some d → ∃ v, vs.lookup f = some v ∧ RepV g w H d v
  | [], _, _, e => by cases e
  | (x, y) :: fs, vs, r, e => by
    simp only [RepFs] at r
    obtain ⟨v, t, rfl, r1, r2⟩ := r
    rw [List.lookup_cons] at e ⊢
    cases h : f == x with
    | true =>
      rw [h] at e
      cases e
      exact ⟨v, rfl, r1⟩
    | false =>
      rw [h] at e
      exact RepFs.lookup r2 e
theorem RepFs.none : ∀ {fs : List (Str × D)} {vs : List (Str × V)}, RepFs g w H fs vs → fs.lookup f = none → vs.lookup f = none
  | [], vs, r, _ => by simp only [RepFs] at r; subst r; rfl
  | (x, y) :: fs, vs, r, e => by
    simp only [RepFs] at r
    obtain ⟨v, t, rfl, r1, r2⟩ := r
    rw [List.lookup_cons] at e ⊢
    cases h : f == x with
    | true =>
      rw [h] at e
      cases e
    | false =>
      rw [h] at e
      exact RepFs.none r2 e
theorem RepFs.length : ∀ {fs : List (Str × D)} {vs : List (Str × V)}, RepFs g w H fs vs → fs.length = vs.length
  | [], vs, r => by simp only [RepFs] at r; subst r; rfl
  | (x, y) :: fs, vs, r => by
    simp only [RepFs] at r
    obtain ⟨v, t, rfl, r1, r2⟩ := r
    simp [RepFs.length r2]
theorem RepFs.put (rd : RepV g w H d v) : ∀ {fs : List (Str × D)} {vs : List (Str × V)}, RepFs g w H fs vs → RepFs g w H (putD f d fs) (putF f v vs)
  | [], vs, r => by
    simp only [RepFs] at r; subst r
    simp only [putD, putF, RepFs]
    exact ⟨v, [], rfl, rd, rfl⟩
  | (x, y) :: fs, vs, r => by
    simp only [RepFs] at r
    obtain ⟨u, t, rfl, r1, r2⟩ := r
    simp only [putD, putF]
    split
    · simp only [RepFs]
      exact ⟨v, t, rfl, rd, r2⟩
    · simp only [RepFs]
      exact ⟨u, _, rfl, r1, RepFs.put rd r2⟩
theorem RepV.insOf {c : Str} {fs : List (Str × D)} (s : RepS g w S H) (r : RepV g w H d v) (e : insOf S d = some (c, fs)) : ∃ p C dx vs, v = .ref p ∧ g.cl c = some C ∧ H p = some (.ins C dx vs) ∧ RepFs g w H fs vs := by
  cases d with
  | obj c' fs' =>
    cases e
    simp only [RepV] at r
    obtain ⟨p, C, dx, vs, rfl, hc, q, n, rs⟩ := r
    exact ⟨p, C, dx, vs, rfl, hc, q, rs⟩
  | loc n =>
    simp only [RepV] at r
    obtain ⟨p, hp, rfl⟩ := r
    obtain ⟨c', hc, hcell⟩ := s.cell hp
    unfold DZ.insOf at e
    simp only [hc] at e
    cases c' with
    | ins c2 fs2 =>
      cases e
      obtain ⟨C, dx, vs, hC, q, rs⟩ := hcell
      exact ⟨p, C, dx, vs, rfl, hC, q, rs⟩
    | _ => cases e
  | _ => cases e
end
section
variable {X : Cx} {cl : Str → Option Addr} {a o value : Expr} {fa fo fv : EF} {cs : List Str} {f : Str} {pos pos' : Pos}
theorem d_fld (hC : FldOk X cl cs f) (he : PD X cl a fa) (hb : attributeBase a f X.env (eval a X.env) = eval a X.env := by rfl) : PD X cl (.Attribute a f pos) (eFld cs f fa) := PE.imp (pe_fld he hb) fun σ H Q h => by
  obtain ⟨w, ρ, S, d, S', hE, hS, hf, k⟩ := h
  obtain ⟨⟨x, S1⟩, h1, hf⟩ := obind hf
  obtain ⟨⟨c, fs⟩, h2, hf⟩ := obind hf
  dsimp only at hf
  split at hf
  · rename_i hc
    obtain ⟨y, h3, hf⟩ := obind hf
    cases hf
    refine ⟨w, ρ, S, x, _, hE, hS, h1, fun w1 H1 v a1 s1 r1 => ?_⟩
    obtain ⟨p, C, dx, vs, rfl, hC1, q, rs⟩ := r1.insOf s1 h2
    obtain ⟨C', hC2, c1, n1⟩ := hC c hc
    rw [show cl c = some C from hC1] at hC2
    cases hC2
    obtain ⟨u, lu, ru⟩ := rs.lookup h3
    exact ⟨p, C, dx, vs, u, rfl, q, c1, n1, lu, (k.from a1 s1).now s1 ru⟩
  · cases hf
theorem s_fld (hC : FldOk X cl cs f) (ha : PD X cl o fo) (hv : PD X cl value fv) (hs : swapsWith value (some (.Attribute o f pos')) pos.line X.env = pure false := by rfl) : SD X cl (.Assign [.Attribute o f pos'] value pos) (sFldD cs f fo fv) := PS.imp (ps_fld ha hv hs) fun D σ H h => by
  obtain ⟨w, ρ, S, r, hE, hS, hf, k⟩ := h
  obtain ⟨⟨y, S1⟩, h1, hf⟩ := obind hf
  obtain ⟨⟨x, S2⟩, h2, hf⟩ := obind hf
  dsimp only at hf
  cases x with
  | loc n =>
    dsimp only at hf
    split at hf
    · rename_i c fs hn
      split at hf
      · rename_i hc
        cases hf
        refine ⟨w, ρ, S, y, S1, hE, hS, h1, fun w1 H1 v a1 s1 r1 => ⟨w1, ρ, S1, _, S2, hE.adv a1 hS, s1, h2, fun w2 H2 u a2 s2 r2 => ?_⟩⟩
        simp only [RepV] at r2
        obtain ⟨p, hp, rfl⟩ := r2
        obtain ⟨C, dx, vs, hC1, q, rs⟩ := s2.at_ n _ p hn hp
        obtain ⟨C', hC2, c1, n1⟩ := hC c hc.1
        rw [show cl c = some C from hC1] at hC2
        cases hC2
        refine ⟨p, C, dx, vs, rfl, q, c1, n1, by rw [← rs.length]; exact hc.2, ?_⟩
        have aw : Adv w2 H2 w2 (upd H2 p (.ins C dx (putF f v vs))) := Adv.write hp (nfI q)
        have r3 := r1.adv a2 s1 _ _
        refine (show KG1 _ w H ρ _ D.nx from k) w2 σ _ ((a1.trans s1 a2).trans s2 aw) (((hE.adv a1 hS).adv a2 s1).adv aw s2) (s2.write hp (nfI q) ⟨C, dx, _, hC1, upd_same, ?_⟩)
        exact RepFs.adv aw s2 _ _ (rs.put r3)
      · cases hf
    · cases hf
  | _ => cases hf
end

/-! ### defs -/
/-- what a def of n parameters promises -/
def liftSp (g : Gx) (n : Nat) (F : FF) : Sp := fun vs H Q _ => vs.length = n ∧ lC g F vs H Q
/-- n arguments suffice for sp (the defaults dvs follow them) -/
def Gives (g : Gx) (n : Nat) (F : FF) (sp : Sp) (dvs : List V) : Prop := ∀ vs H Q, vs.length = n → lC g F vs H Q → sp (vs ++ dvs) H Q E0
/-- the def that the module's name x stands for -/
structure Fn (P : Program) (w : World) (K : PySem.W.Frag) (mg : Str → Option Value) (base : Heap) (cl : Str → Option Addr) (k : Nat) (x : Str) (n : Nat) (F : FF) : Prop where
  ex : ∃ f fd ps sp dvs ds, FnOk P w K mg base CX0 k f fd ps sp ∧ Gives ⟨K, cl⟩ n F sp dvs ∧ mg x = some (.ref f) ∧ PySem.W.keepIn K (.ref f) = true ∧ Vals dvs ds ∧ Binds K fd ps ds
/-- the method m of the class c -/
structure Mt (P : Program) (w : World) (K : PySem.W.Frag) (mg : Str → Option Value) (base : Heap) (cl : Str → Option Addr) (k : Nat) (c m : Str) (n : Nat) (F : FF) : Prop where
  ex : ∃ C f fd ps sp dvs ds, cl c = some C ∧ Cls K C ∧ Meth K C m f ∧ FnOk P w K mg base CX0 k f fd ps sp ∧ Gives ⟨K, cl⟩ n F sp dvs ∧ Vals dvs ds ∧ Binds K fd ps ds
/-- C(..) -/
structure Mkr (P : Program) (w : World) (K : PySem.W.Frag) (mg : Str → Option Value) (base : Heap) (cl : Str → Option Addr) (k : Nat) (c : Str) (n : Nat) (F : FF) : Prop where
  ex : ∃ C f fd ps sp dvs ds, cl c = some C ∧ mg c = some (.ref C) ∧ Mk K C f ∧ FnOk P w K mg base CX0 k f fd ps sp ∧ Gives ⟨K, cl⟩ n F sp dvs ∧ Vals dvs ds ∧ Binds K fd ps ds
theorem Gives.all {g : Gx} {n : Nat} {F : FF} : Gives g n F (liftSp g n F) [] := fun vs H Q hl h => by
  rw [List.append_nil]
  exact ⟨hl, h⟩
/-- defaults by values -/
def dfl (ws : List D) (F : FF) : FF := fun ds S => F (ds ++ ws) S
theorem Gives.dfl {g : Gx} {n m : Nat} {F : FF} {dvs : List V} {ws : List D} (hw : ∀ w H, RepVs g w H ws dvs) (hm : n + dvs.length = m) : Gives g n (dfl ws F) (liftSp g m F) dvs := fun vs H Q hl h => by
  obtain ⟨w, S, ds, d, S', s, r, hf, k⟩ := h
  exact ⟨by rw [List.length_append, hl]; exact hm, w, S, ds ++ ws, d, S', s, r.append (hw w H), hf, k⟩
/-- n arguments are handed over -/
def aLen (n : Nat) (fa : AF) : AF := fun ρ S => (fa ρ S).bind fun r => if r.1.length = n then some r else none
def eDef (n : Nat) (F : FF) (fa : AF) : EF := eCall F (aLen n fa)
/-- o.m(..), o of the class c -/
def eMeth (c m : Str) (n : Nat) (F : FF) (fo : EF) (fa : AF) : EF := fun ρ S => (fo ρ S).bind fun r => (insOf r.2 r.1).bind fun q => if q.1 = c ∧ q.2.lookup m = none then (fa ρ r.2).bind fun z => if z.1.length + 1 = n then F (r.1 :: z.1) z.2 else none else none
def eMake (c : Str) (n : Nat) (F : FF) (fa : AF) : EF := fun ρ S => (fa ρ S).bind fun z => if z.1.length + 1 = n then (F (.loc z.2.length :: z.1) (z.2 ++ [.ins c []])).bind fun r => match r.1 with
    | .non => some (.loc z.2.length, r.2)
    | _ => none
  else none
/-- a def's body over N slots -/
def runF (N : Nat) (f : SF) : FF := fun ds S => (f (ds.map some ++ List.replicate (N - ds.length) none) S).bind fun r => match r.1 with
  | .nx => some (.non, r.2.2)
  | .rt d => some (d, r.2.2)
  | _ => none

section
variable {X : Cx} {cl : Str → Option Addr} {e o : Expr} {es : List Expr} {fa : AF} {fo : EF} {k n : Nat} {F : FF} {x m c : Str} {p pos apos : Pos}
theorem d_def (h : Fn X.prog X.w X.K X.mg X.base cl k x n F) (hr : Room k X.A) (ha : AD X cl (e :: es) fa) (hg : Gl X x := by rfl) (hdb : (x == ("__debug__" : Str)) = false := by decide)
    (he : starEach (e :: es) X.env = (false, eval e X.env) :: starEach es X.env := by rfl) (hpl : (backTo pos (starEach es X.env)).any (·.1) = false := by rfl) : PD X cl (.Call (.Name x p) (e :: es) [] pos) (eDef n F fa) := by
  obtain ⟨f, fd, ps, sp, dvs, dds, hF, hG, hm, hk, hv, hb⟩ := h.ex
  refine PE.imp (pe_call (dvs := dvs) (E := E0) hF hr hg hm hk hb hv pass0 ha hdb he hpl) fun σ H Q h => ?_
  obtain ⟨w, ρ, S, d, S', hE, hS, hf, k⟩ := h
  obtain ⟨⟨x, S1⟩, h1, hf⟩ := obind hf
  obtain ⟨⟨y, S2⟩, h2, h3⟩ := obind h1
  dsimp only at h3
  split at h3
  · rename_i hl
    cases h3
    refine ⟨w, ρ, S, _, _, hE, hS, h2, fun w1 H1 vs a1 s1 r1 => ?_⟩
    exact hG vs H1 Q (by rw [← r1.length]; exact hl) ⟨w1, _, _, d, S', s1, r1, hf, k.from a1 s1⟩
  · cases h3
theorem d_def0 (h : Fn X.prog X.w X.K X.mg X.base cl k x 0 F) (hr : Room k X.A) (hg : Gl X x := by rfl) (hdb : (x == ("__debug__" : Str)) = false := by decide) : PD X cl (.Call (.Name x p) [] [] pos) (eDef 0 F aNil) := by
  obtain ⟨f, fd, ps, sp, dvs, dds, hF, hG, hm, hk, hv, hb⟩ := h.ex
  refine PE.imp (pe_call0 (dvs := dvs) (E := E0) hF hr hg hm hk hb hv pass0 hdb) fun σ H Q h => ?_
  obtain ⟨w, ρ, S, d, S', hE, hS, hf, k⟩ := h
  exact hG [] H Q rfl ⟨w, S, [], d, S', hS, by simp [RepVs], hf, k⟩
theorem d_meth {pl : Sem Bool} (h : Mt X.prog X.w X.K X.mg X.base cl k c m n F) (hr : Room k X.A) (ho : PD X cl o fo) (ha : AD X cl (e :: es) fa)
    (hst : starEach (e :: es) X.env = (false, eval e X.env) :: starEach es X.env := by rfl) (hpl : (backTo pos (starEach es X.env)).any (·.1) = false := by rfl)
    (ht : eval (.Call (.Attribute o m apos) (e :: es) [] pos) X.env = (do
      let ov ← eval o X.env
      standAt apos.atName
      let (f, first) ← holding [ov] (getMethod ov m pl)
      callWith pos f first (backTo pos (starEach (e :: es) X.env)) (backToKw pos (keywordEach [] X.env))) := by rfl) : PD X cl (.Call (.Attribute o m apos) (e :: es) [] pos) (eMeth c m n F fo fa) := by
  obtain ⟨C, f, fd, ps, sp, dvs, dds, hC, hcl, hm, hF, hG, hv, hb⟩ := h.ex
  refine PE.imp (pe_meth (pl := pl) (dvs := dvs) (E := E0) ho hcl hm hF hr hb hv pass0 ha hst hpl ht) fun σ H Q h => ?_
  obtain ⟨w, ρ, S, d, S', hE, hS, hf, k⟩ := h
  obtain ⟨⟨x, S1⟩, h1, hfa⟩ := obind hf
  clear hf
  obtain ⟨⟨c', fs⟩, h2, hfb⟩ := obind hfa
  clear hfa
  dsimp only at hfb
  split at hfb
  · rename_i hc
    obtain ⟨rfl, hno⟩ := hc
    obtain ⟨⟨z, S2⟩, h3, hf⟩ := obind hfb
    clear hfb
    dsimp only at hf
    split at hf
    · rename_i hl
      refine ⟨w, ρ, S, x, S1, hE, hS, h1, fun w1 H1 v a1 s1 r1 => ?_⟩
      obtain ⟨p, C', dx, vs, rfl, hC1, q, rs⟩ := r1.insOf s1 h2
      rw [show cl c' = some C' from hC1] at hC
      cases hC
      refine ⟨p, dx, vs, rfl, q, rs.none hno, w1, ρ, S1, z, S2, hE.adv a1 hS, s1, h3, fun w2 H2 us a2 s2 r2 => ?_⟩
      refine hG (_ :: us) H2 Q (by simp only [List.length_cons]; rw [← r2.length]; exact hl) ⟨w2, S2, x :: z, d, S', s2, ?_, hf, (k.from a1 s1).from a2 s2⟩
      simp only [RepVs]
      exact ⟨_, us, rfl, r1.adv a2 s1 _ _, r2⟩
    · cases hf
  · cases hfb
theorem d_meth0 {pl : Sem Bool} (h : Mt X.prog X.w X.K X.mg X.base cl k c m n F) (hr : Room k X.A) (ho : PD X cl o fo)
    (ht : eval (.Call (.Attribute o m apos) [] [] pos) X.env = (do
      let ov ← eval o X.env
      standAt apos.atName
      let (f, first) ← holding [ov] (getMethod ov m pl)
      callWith pos f first (backTo pos (starEach [] X.env)) (backToKw pos (keywordEach [] X.env))) := by rfl) : PD X cl (.Call (.Attribute o m apos) [] [] pos) (eMeth c m n F fo aNil) := by
  obtain ⟨C, f, fd, ps, sp, dvs, dds, hC, hcl, hm, hF, hG, hv, hb⟩ := h.ex
  refine PE.imp (pe_meth0 (pl := pl) (dvs := dvs) (E := E0) ho hcl hm hF hr hb hv pass0 ht) fun σ H Q h => ?_
  obtain ⟨w, ρ, S, d, S', hE, hS, hf, k⟩ := h
  obtain ⟨⟨x, S1⟩, h1, hfa⟩ := obind hf
  clear hf
  obtain ⟨⟨c', fs⟩, h2, hfb⟩ := obind hfa
  clear hfa
  dsimp only at hfb
  split at hfb
  · rename_i hc
    obtain ⟨rfl, hno⟩ := hc
    obtain ⟨⟨z, S2⟩, h3, hf⟩ := obind hfb
    clear hfb
    cases h3
    dsimp only at hf
    split at hf
    · rename_i hl
      refine ⟨w, ρ, S, x, _, hE, hS, h1, fun w1 H1 v a1 s1 r1 => ?_⟩
      obtain ⟨p, C', dx, vs, rfl, hC1, q, rs⟩ := r1.insOf s1 h2
      rw [show cl c' = some C' from hC1] at hC
      cases hC
      refine ⟨p, dx, vs, rfl, q, rs.none hno, ?_⟩
      exact hG [_] H1 Q (by simpa using hl) ⟨w1, _, [x], d, S', s1, RepVs.one r1, hf, k.from a1 s1⟩
    · cases hf
  · cases hfb
/-- a new instance -/
theorem RepS.newIns {g : Gx} {w : Wo} {H : Hp} {S : Store} {c : Str} {C q dx : Addr} (s : RepS g w S H) (hC : g.cl c = some C) (hq : H q = none) (hdx : H dx = none) (hne : dx ≠ q) :
    RepS g ⟨w.io ++ [q], w.be⟩ (S ++ [.ins c []]) (upd (upd H dx (.own q)) q (.ins C dx [])) ∧ Adv w H ⟨w.io ++ [q], w.be⟩ (upd (upd H dx (.own q)) q (.ins C dx [])) := by
  have hio : q ∉ w.io := fun z => s.tracked z hq
  have a : Adv w H ⟨w.io ++ [q], w.be⟩ (upd (upd H dx (.own q)) q (.ins C dx [])) :=
    ⟨fun p o e _ => by rw [upd_ne (ne_of_none e hq), upd_ne (ne_of_none e hdx)]; exact e, ⟨[q], rfl, fun z hz => by simp only [List.mem_singleton] at hz; subst hz; exact hq⟩, fun _ h => h, fun _ h => .inl h, fun p b u e => by rw [upd_ne (ne_of_none e hq), upd_ne (ne_of_none e hdx)]; exact e⟩
  refine ⟨⟨?_, ?_, fun n ce p e1 e2 => ?_, fun p hp => ?_, fun p hp z => ?_⟩, a⟩
  · show (w.io ++ [q]).length = _
    rw [List.length_append, List.length_append, s.len]; rfl
  · refine List.nodup_append.mpr ⟨s.nd, by simp, fun a ha b hb => ?_⟩
    simp only [List.mem_singleton] at hb
    subst hb
    rintro rfl
    exact hio ha
  · have e2 : (w.io ++ [q])[n]? = some p := e2
    by_cases hn : n < S.length
    · rw [List.getElem?_append_left hn] at e1
      rw [List.getElem?_append_left (by rw [s.len]; exact hn)] at e2
      have e3 : w.io[n]? = some p := e2
      have hpm : p ∈ w.io := List.mem_of_getElem? e3
      have hpq : p ≠ q := fun z => hio (z ▸ hpm)
      have hpd : p ≠ dx := fun z => s.tracked hpm (z ▸ hdx)
      exact (s.at_ n ce p e1 e2).adv a s (by rw [upd_ne hpq, upd_ne hpd])
    · have hn' : n = S.length := by
        have := (List.getElem?_eq_some_iff.mp e1).1
        rw [List.length_append] at this
        simp only [List.length_singleton] at this
        omega
      subst hn'
      rw [List.getElem?_append_right (Nat.le_refl _)] at e1
      rw [List.getElem?_append_right (by rw [s.len]; exact Nat.le_refl _), s.len] at e2
      simp at e1 e2
      subst e1 e2
      exact ⟨C, dx, [], hC, upd_same, by simp only [RepFs]⟩
  · obtain ⟨vs, e⟩ := s.be p hp
    exact ⟨vs, by rw [upd_ne (ne_of_none e hq), upd_ne (ne_of_none e hdx)]; exact e⟩
  · rcases List.mem_append.mp z with z | z
    · exact s.ne p hp z
    · simp only [List.mem_singleton] at z
      subst z
      obtain ⟨vs, e⟩ := s.be _ hp
      rw [hq] at e; cases e
theorem make_read {sp : Sp} {dvs : List V} {g : Gx} {w1 : Wo} {H1 : Hp} {S1 S' : Store} {ds : List D} {vs : List V} {C : Addr} {d : D} {Q : VK} {c : Str} {n : Nat} {F : FF} (hG : Gives g n F sp dvs) (hC : g.cl c = some C) (s1 : RepS g w1 S1 H1) (r1 : RepVs g w1 H1 ds vs) (hl : ds.length + 1 = n)
    (hf : ((F (.loc S1.length :: ds) (S1 ++ [.ins c []])).bind fun r => match r.1 with
      | .non => some (D.loc S1.length, r.2)
      | _ => none) = some (d, S')) (k : KV1 g w1 H1 d S' Q) : ∀ x dx, H1 x = none → H1 dx = none → dx ≠ x →
    sp (.ref x :: (vs ++ dvs)) (upd (upd H1 dx (.own x)) x (.ins C dx [])) (fun v H2 => v = .non ∧ Q (.ref x) H2) E0 := fun x dx hx hdx hne => by
  obtain ⟨s2, a2⟩ := s1.newIns hC hx hdx hne
  obtain ⟨⟨y, S3⟩, h1, hf⟩ := obind hf
  dsimp only at hf
  cases y with
  | non =>
    cases hf
    refine hG (.ref x :: vs) _ _ (by simp only [List.length_cons]; rw [← r1.length]; exact hl) ⟨_, _, _, _, _, s2, ?_, h1, fun w3 H3 v a3 s3 r3 => ?_⟩
    · simp only [RepVs]
      refine ⟨_, vs, rfl, ?_, RepVs.adv a2 s1 _ _ r1⟩
      simp only [RepV]
      refine ⟨x, ?_, rfl⟩
      rw [List.getElem?_append_right (by rw [s1.len]; exact Nat.le_refl _), s1.len]
      simp
    · simp only [RepV] at r3
      refine ⟨r3, k w3 H3 _ (a2.trans s2 a3) s3 ?_⟩
      simp only [RepV]
      refine ⟨x, a3.io ?_, rfl⟩
      rw [List.getElem?_append_right (by rw [s1.len]; exact Nat.le_refl _), s1.len]
      simp
  | _ => cases hf
theorem d_make (h : Mkr X.prog X.w X.K X.mg X.base cl k c n F) (hr : Room (k + 1) X.A) (ha : AD X cl (e :: es) fa) (hg : Gl X c := by rfl) (hdb : (c == ("__debug__" : Str)) = false := by decide)
    (he : starEach (e :: es) X.env = (false, eval e X.env) :: starEach es X.env := by rfl) (hpl : (backTo pos (starEach es X.env)).any (·.1) = false := by rfl) : PD X cl (.Call (.Name c p) (e :: es) [] pos) (eMake c n F fa) := by
  obtain ⟨C, f, fd, ps, sp, dvs, dds, hC, hm, M, hF, hG, hv, hb⟩ := h.ex
  refine PE.imp (pe_make (dvs := dvs) (E := E0) M hF hr hg hm hb hv pass0 ha hdb he hpl) fun σ H Q h => ?_
  obtain ⟨w, ρ, S, d, S', hE, hS, hf, k⟩ := h
  obtain ⟨⟨z, S1⟩, h1, hf⟩ := obind hf
  dsimp only at hf
  split at hf
  · rename_i hl
    exact ⟨w, ρ, S, z, S1, hE, hS, h1, fun w1 H1 vs a1 s1 r1 => make_read hG hC s1 r1 hl hf (k.from a1 s1)⟩
  · cases hf
theorem d_make0 (h : Mkr X.prog X.w X.K X.mg X.base cl k c n F) (hr : Room (k + 1) X.A) (hg : Gl X c := by rfl) (hdb : (c == ("__debug__" : Str)) = false := by decide) : PD X cl (.Call (.Name c p) [] [] pos) (eMake c n F aNil) := by
  obtain ⟨C, f, fd, ps, sp, dvs, dds, hC, hm, M, hF, hG, hv, hb⟩ := h.ex
  refine PE.imp (pe_make0 (dvs := dvs) (E := E0) M hF hr hg hm hb hv pass0 hdb) fun σ H Q h => ?_
  obtain ⟨w, ρ, S, d, S', hE, hS, hf, k⟩ := h
  obtain ⟨⟨z, S1⟩, h1, hf⟩ := obind hf
  cases h1
  dsimp only at hf
  split at hf
  · rename_i hl
    exact make_read (vs := []) hG hC hS (by simp [RepVs]) hl hf k
  · cases hf
/-- a def keeps its promise: by its body -/
theorem run_read {g : Gx} {N : List Str} {f : SF} {vs : List V} {H : Hp} {Q : VK} (h : lC g (runF N.length f) vs H Q) : lS g f { nx := fun _ H' => Q .non H', rt := Q } (L2.start N vs) H := by
  obtain ⟨w, S, ds, d, S', s, r, hf, k⟩ := h
  obtain ⟨⟨fl, ρ, S2⟩, h1, hf⟩ := obind hf
  refine ⟨w, _, S, (fl, ρ, S2), ⟨?_, fun i d e => ?_⟩, s, h1, ?_⟩
  · unfold L2.start
    simp [r.length]
  · unfold L2.start
    have hl := r.length
    by_cases hi : i < ds.length
    · rw [List.getElem?_append_left (by simpa using hi), List.getElem?_map] at e
      cases hd : ds[i]? with
      | none => rw [hd] at e; cases e
      | some d' =>
        rw [hd] at e
        have : d' = d := Option.some.inj (Option.some.inj e)
        subst this
        obtain ⟨v, h1, h2⟩ := r.get hd
        refine ⟨v, ?_, h2⟩
        rw [List.getElem?_append_left (by simp; omega), List.getElem?_map, h1]
        rfl
    · rw [List.getElem?_append_right (by simp; omega), List.getElem?_replicate] at e
      split at e <;> cases e
  · cases fl with
    | nx =>
      cases hf
      exact fun w' σ' H' a' e' s' => k w' H' .non a' s' (by simp [RepV])
    | rt z =>
      cases hf
      exact k
    | bk => cases hf
    | ct => cases hf
end
end DZ

/-! DzI: built-ins by values: len, int, abs, min, max, sum, any, all, list, tuple, sorted, isinstance; lists' methods; stores; dicts. -/
namespace DZ
open PySem PySem.Spec PyProof.Rows L2
open Classical

/-! ### readers -/
def intsOf : List D → Option (List Int)
  | [] => some []
  | .int i :: r => (intsOf r).bind fun l => some (i :: l)
  | _ => none
def blsOf : List D → Option (List Bool)
  | [] => some []
  | .bl i :: r => (blsOf r).bind fun l => some (i :: l)
  | _ => none
theorem intsOf_is : ∀ {xs : List D} {ns : List Int}, intsOf xs = some ns → xs = ns.map .int
  | [], ns, e => by cases e; rfl
  | d :: r, ns, e => by
    cases d with
    | int i =>
      obtain ⟨l, e1, e2⟩ := obind (show (intsOf r).bind (fun l => some (i :: l)) = some ns from e)
      cases e2
      rw [intsOf_is e1]; rfl
    | _ => cases e
theorem intsOf_map : ∀ (ns : List Int), intsOf (ns.map .int) = some ns
  | [] => rfl
  | n :: ns => by
    show (intsOf (ns.map .int)).bind (fun l => some (n :: l)) = _
    rw [intsOf_map ns]; rfl
theorem blsOf_is : ∀ {xs : List D} {ns : List Bool}, blsOf xs = some ns → xs = ns.map .bl
  | [], ns, e => by cases e; rfl
  | d :: r, ns, e => by
    cases d with
    | bl i =>
      obtain ⟨l, e1, e2⟩ := obind (show (blsOf r).bind (fun l => some (i :: l)) = some ns from e)
      cases e2
      rw [blsOf_is e1]; rfl
    | _ => cases e
theorem blsOf_map : ∀ (ns : List Bool), blsOf (ns.map .bl) = some ns
  | [] => rfl
  | n :: ns => by
    show (blsOf (ns.map .bl)).bind (fun l => some (n :: l)) = _
    rw [blsOf_map ns]; rfl
theorem RepVs.bls {g : Gx} {w : Wo} {H : Hp} : ∀ {ns : List Bool} {vs : List V}, RepVs g w H (ns.map .bl) vs → vs = ns.map V.bl
  | [], vs, h => by simpa [RepVs] using h
  | n :: ns, vs, h => by
    simp only [List.map_cons, RepVs, RepV] at h
    obtain ⟨v, r, rfl, rfl, h⟩ := h
    rw [RepVs.bls h, List.map_cons]

/-! ### built-ins -/
def lenOf (S : Store) (d : D) : Option Nat := match d with
  | .tup xs => some xs.length
  | .str x => if x.length ≤ 1000000 then some x.length else none
  | d => (rdOf S d).map List.length
def bLen : FF := fun ds S => match ds with
  | [d] => (lenOf S d).bind fun n => some (.int n, S)
  | _ => none
def bInt : FF := fun ds S => match ds with
  | [.int i] => some (.int i, S)
  | [.bl b] => some (.int (if b then 1 else 0), S)
  | _ => none
def bAbs : FF := fun ds S => match ds with
  | [.int i] => some (.int (if i < 0 then -i else i), S)
  | _ => none
/-- of two ints, of a list of ints -/
def maxL : List Int → Option Int
  | [] => none
  | n :: ns => some (ns.foldl max n)
def minL : List Int → Option Int
  | [] => none
  | n :: ns => some (ns.foldl min n)
def bMax : FF := fun ds S => match ds with
  | [.int i, .int j] => some (.int (if j > i then j else i), S)
  | [d] => (rdOf S d).bind fun xs => (intsOf xs).bind fun ns => (maxL ns).bind fun m => some (.int m, S)
  | _ => none
def bMin : FF := fun ds S => match ds with
  | [.int i, .int j] => some (.int (if j < i then j else i), S)
  | [d] => (rdOf S d).bind fun xs => (intsOf xs).bind fun ns => (minL ns).bind fun m => some (.int m, S)
  | _ => none
def bSum : FF := fun ds S => match ds with
  | [d] => (rdOf S d).bind fun xs => (intsOf xs).bind fun ns => some (.int ns.sum, S)
  | _ => none
def bAny : FF := fun ds S => match ds with
  | [d] => (rdOf S d).bind fun xs => (blsOf xs).bind fun ns => some (.bl (ns.any id), S)
  | _ => none
def bAll : FF := fun ds S => match ds with
  | [d] => (rdOf S d).bind fun xs => (blsOf xs).bind fun ns => some (.bl (ns.all id), S)
  | _ => none
def bTuple : FF := fun ds S => match ds with
  | [.tup xs] => some (.tup xs, S)
  | [d] => (rdOf S d).bind fun xs => some (.tup xs, S)
  | _ => none
/-- new lists -/
def seqOf (S : Store) (d : D) : Option (List D) := match d with
  | .tup xs => some xs
  | d => rdOf S d
def nList : List D → Store → Option (List D × Store) := fun ds S => match ds with
  | [d] => (seqOf S d).bind fun xs => some (xs, S)
  | _ => none
def nSorted : List D → Store → Option (List D × Store) := fun ds S => match ds with
  | [d] => (rdOf S d).bind fun xs => (intsOf xs).bind fun ns => some ((ns.mergeSort (fun a b => decide (a ≤ b))).map .int, S)
  | _ => none

theorem foldl_max_mem : ∀ (ns : List Int) (n : Int), ns.foldl max n ∈ n :: ns ∧ ∀ y ∈ n :: ns, y ≤ ns.foldl max n
  | [], n => ⟨by simp, by simp⟩
  | k :: ns, n => by
    obtain ⟨h1, h2⟩ := foldl_max_mem ns (max n k)
    simp only [List.foldl_cons]
    have hm : max n k = n ∨ max n k = k := by omega
    refine ⟨?_, fun y hy => ?_⟩
    · rcases List.mem_cons.mp h1 with h | h
      · rw [h]; rcases hm with e | e <;> rw [e] <;> simp
      · exact List.mem_cons_of_mem _ (List.mem_cons_of_mem _ h)
    · have h3 := h2 (max n k) List.mem_cons_self
      rcases List.mem_cons.mp hy with rfl | hy
      · omega
      · rcases List.mem_cons.mp hy with rfl | hy
        · omega
        · exact h2 y (List.mem_cons_of_mem _ hy)
theorem foldl_min_mem : ∀ (ns : List Int) (n : Int), ns.foldl min n ∈ n :: ns ∧ ∀ y ∈ n :: ns, ns.foldl min n ≤ y
  | [], n => ⟨by simp, by simp⟩
  | k :: ns, n => by
    obtain ⟨h1, h2⟩ := foldl_min_mem ns (min n k)
    simp only [List.foldl_cons]
    have hm : min n k = n ∨ min n k = k := by omega
    refine ⟨?_, fun y hy => ?_⟩
    · rcases List.mem_cons.mp h1 with h | h
      · rw [h]; rcases hm with e | e <;> rw [e] <;> simp
      · exact List.mem_cons_of_mem _ (List.mem_cons_of_mem _ h)
    · have h3 := h2 (min n k) List.mem_cons_self
      rcases List.mem_cons.mp hy with rfl | hy
      · omega
      · rcases List.mem_cons.mp hy with rfl | hy
        · omega
        · exact h2 y (List.mem_cons_of_mem _ hy)
theorem sorted_unique {ns ms : List Int} (hp : ns.Perm ms) (h1 : ns.Pairwise (· ≤ ·)) (h2 : ms.Pairwise (· ≤ ·)) : ns = ms :=
  hp.eq_of_pairwise (fun a b _ _ h h' => Int.le_antisymm h h') h1 h2
theorem msort_sorted (ns : List Int) : (ns.mergeSort (fun a b => decide (a ≤ b))).Pairwise (· ≤ ·) := by
  have := List.pairwise_mergeSort (le := fun a b : Int => decide (a ≤ b)) (fun a b c h1 h2 => by simp at h1 h2 ⊢; omega) (fun a b => by simp; omega) ns
  exact this.imp fun h => by simpa using h

section
variable {X : Cx} {cl : Str → Option Addr}
/-- one list of ints as the only argument -/
theorem arg_ints {g : Gx} {w : Wo} {H : Hp} {S : Store} {d : D} {vs : List V} {xs : List D} {ns : List Int} (s : RepS g w S H) (r : RepVs g w H [d] vs) (e : rdOf S d = some xs) (e2 : intsOf xs = some ns) : ∃ p, vs = [.ref p] ∧ SqL g.K H p (ns.map V.int) := by
  obtain ⟨v, rfl, rv⟩ := r.one'
  obtain ⟨p, us, rfl, q, ru⟩ := rv.rdOf s e
  rw [intsOf_is e2] at ru
  rw [ru.ints] at q
  exact ⟨p, rfl, q⟩
theorem arg_bls {g : Gx} {w : Wo} {H : Hp} {S : Store} {d : D} {vs : List V} {xs : List D} {ns : List Bool} (s : RepS g w S H) (r : RepVs g w H [d] vs) (e : rdOf S d = some xs) (e2 : blsOf xs = some ns) : ∃ p, vs = [.ref p] ∧ SqL g.K H p (ns.map V.bl) := by
  obtain ⟨v, rfl, rv⟩ := r.one'
  obtain ⟨p, us, rfl, q, ru⟩ := rv.rdOf s e
  rw [blsOf_is e2] at ru
  rw [ru.bls] at q
  exact ⟨p, rfl, q⟩
theorem CallR.imp {f : Value} {r r' : List V → Hp → VK → Prop} (h : CallR X f r) (i : ∀ xs H Q, r' xs H Q → r xs H Q) : CallR X f r' := fun pins s σ H xs us Q I rx q => h pins s σ H xs us Q I rx (i xs H Q q)
theorem MtR.imp {f : String} {r r' : V → List V → Hp → VK → Prop} (h : MtR X f r) (i : ∀ x xs H Q, r' x xs H Q → r x xs H Q) : MtR X f r' := fun pins s σ H x xs v us Q I rx rxs q => h pins s σ H x xs v us Q I rx rxs (i x xs H Q q)
theorem c_len : CallR X (.builtin "len") (lC (Cx.g X cl) bLen) := CallR.imp (CallR.or call_len_seq call_len_str) fun xs H Q h => by
  obtain ⟨w, S, ds, d, S', s, r, hf, k⟩ := h
  unfold bLen at hf
  split at hf
  · rename_i x
    obtain ⟨n, e, hf⟩ := obind hf
    cases hf
    obtain ⟨v, rfl, rv⟩ := r.one'
    have other : (rdOf S x).map List.length = some n → (∃ p ys, [v] = [.ref p] ∧ (SqL X.K H p ys ∨ SqT X.K H p ys) ∧ Q (.int ys.length) H) := fun e => by
      obtain ⟨ys, e1, rfl⟩ := Option.map_eq_some_iff.mp e
      obtain ⟨p, us, rfl, q, ru⟩ := rv.rdOf s e1
      exact ⟨p, us, rfl, .inl q, by rw [← ru.length]; exact k.now s (by simp [RepV])⟩
    cases x with
    | tup ys =>
      cases e
      obtain ⟨p, us, rfl, q, ru⟩ := rv.tupOf rfl
      exact .inl ⟨p, us, rfl, .inr q, by rw [← ru.length]; exact k.now s (by simp [RepV])⟩
    | str y =>
      change (if y.length ≤ 1000000 then some y.length else none) = _ at e
      split at e
      · rename_i hl
        cases e
        simp only [RepV] at rv
        subst rv
        exact .inr ⟨y, rfl, Nat.le_trans hl million, k.now s (by simp [RepV])⟩
      · cases e
    | _ => exact .inl (other e)
  · cases hf
theorem c_int : CallR X (.type "int") (lC (Cx.g X cl) bInt) := CallR.imp call_int1 fun xs H Q h => by
  obtain ⟨w, S, ds, d, S', s, r, hf, k⟩ := h
  unfold bInt at hf
  split at hf
  · cases hf
    obtain ⟨v, rfl, rv⟩ := r.one'
    simp only [RepV] at rv
    exact .inl ⟨_, by rw [rv], k.now s (by simp [RepV])⟩
  · cases hf
    obtain ⟨v, rfl, rv⟩ := r.one'
    simp only [RepV] at rv
    exact .inr ⟨_, by rw [rv], k.now s (by simp [RepV])⟩
  · cases hf
theorem c_abs : CallR X (.builtin "abs") (lC (Cx.g X cl) bAbs) := CallR.imp call_abs fun xs H Q h => by
  obtain ⟨w, S, ds, d, S', s, r, hf, k⟩ := h
  unfold bAbs at hf
  split at hf
  · cases hf
    obtain ⟨v, rfl, rv⟩ := r.one'
    simp only [RepV] at rv
    exact ⟨_, by rw [rv], k.now s (by simp [RepV])⟩
  · cases hf
theorem c_max (hc : X.calm = true) : CallR X (.builtin "max") (lC (Cx.g X cl) bMax) := CallR.imp (CallR.or (call_max2 hc) (cr_max hc)) fun xs H Q h => by
  obtain ⟨w, S, ds, d, S', s, r, hf, k⟩ := h
  unfold bMax at hf
  split at hf
  · cases hf
    obtain ⟨v, u, rfl, rv, ru⟩ := r.two'
    simp only [RepV] at rv ru
    exact .inl ⟨_, _, by rw [rv, ru], k.now s (by simp [RepV])⟩
  · obtain ⟨ys, e1, hf⟩ := obind hf
    obtain ⟨ns, e2, hf⟩ := obind hf
    obtain ⟨m, e3, hf⟩ := obind hf
    cases hf
    obtain ⟨p, rfl, q⟩ := arg_ints s r e1 e2
    cases ns with
    | nil => cases e3
    | cons n ns =>
      cases e3
      refine .inr ⟨p, n :: ns, rfl, q, by simp, fun m hm hle => ?_⟩
      have z := foldl_max_mem ns n
      have : m = ns.foldl max n := Int.le_antisymm (z.2 m hm) (hle _ z.1)
      rw [this]
      exact k.now s (by simp [RepV])
  · cases hf
theorem c_min (hc : X.calm = true) : CallR X (.builtin "min") (lC (Cx.g X cl) bMin) := CallR.imp (CallR.or (call_min2 hc) (cr_min hc)) fun xs H Q h => by
  obtain ⟨w, S, ds, d, S', s, r, hf, k⟩ := h
  unfold bMin at hf
  split at hf
  · cases hf
    obtain ⟨v, u, rfl, rv, ru⟩ := r.two'
    simp only [RepV] at rv ru
    exact .inl ⟨_, _, by rw [rv, ru], k.now s (by simp [RepV])⟩
  · obtain ⟨ys, e1, hf⟩ := obind hf
    obtain ⟨ns, e2, hf⟩ := obind hf
    obtain ⟨m, e3, hf⟩ := obind hf
    cases hf
    obtain ⟨p, rfl, q⟩ := arg_ints s r e1 e2
    cases ns with
    | nil => cases e3
    | cons n ns =>
      cases e3
      refine .inr ⟨p, n :: ns, rfl, q, by simp, fun m hm hle => ?_⟩
      have z := foldl_min_mem ns n
      have : m = ns.foldl min n := Int.le_antisymm (hle _ z.1) (z.2 m hm)
      rw [this]
      exact k.now s (by simp [RepV])
  · cases hf
theorem c_sum (hc : X.calm = true) : CallR X (.builtin "sum") (lC (Cx.g X cl) bSum) := CallR.imp (cr_sum hc) fun xs H Q h => by
  obtain ⟨w, S, ds, d, S', s, r, hf, k⟩ := h
  unfold bSum at hf
  split at hf
  · obtain ⟨ys, e1, hf⟩ := obind hf
    obtain ⟨ns, e2, hf⟩ := obind hf
    cases hf
    obtain ⟨p, rfl, q⟩ := arg_ints s r e1 e2
    exact ⟨p, ns, rfl, q, k.now s (by simp [RepV])⟩
  · cases hf
theorem c_any (hc : X.calm = true) : CallR X (.builtin "any") (lC (Cx.g X cl) bAny) := CallR.imp (cr_any hc) fun xs H Q h => by
  obtain ⟨w, S, ds, d, S', s, r, hf, k⟩ := h
  unfold bAny at hf
  split at hf
  · obtain ⟨ys, e1, hf⟩ := obind hf
    obtain ⟨ns, e2, hf⟩ := obind hf
    cases hf
    obtain ⟨p, rfl, q⟩ := arg_bls s r e1 e2
    exact ⟨p, ns, rfl, q, k.now s (by simp [RepV])⟩
  · cases hf
theorem c_all (hc : X.calm = true) : CallR X (.builtin "all") (lC (Cx.g X cl) bAll) := CallR.imp (cr_all hc) fun xs H Q h => by
  obtain ⟨w, S, ds, d, S', s, r, hf, k⟩ := h
  unfold bAll at hf
  split at hf
  · obtain ⟨ys, e1, hf⟩ := obind hf
    obtain ⟨ns, e2, hf⟩ := obind hf
    cases hf
    obtain ⟨p, rfl, q⟩ := arg_bls s r e1 e2
    exact ⟨p, ns, rfl, q, k.now s (by simp [RepV])⟩
  · cases hf
theorem c_tuple : CallR X (.type "tuple") (lC (Cx.g X cl) bTuple) := CallR.imp call_tuple_of fun xs H Q h => by
  obtain ⟨w, S, ds, d, S', s, r, hf, k⟩ := h
  unfold bTuple at hf
  split at hf
  · cases hf
    obtain ⟨v, rfl, rv⟩ := r.one'
    obtain ⟨p, us, rfl, q, ru⟩ := rv.tupOf rfl
    exact ⟨p, us, rfl, .inr ⟨q, k.now s rv⟩⟩
  · obtain ⟨ys, e1, hf⟩ := obind hf
    cases hf
    obtain ⟨v, rfl, rv⟩ := r.one'
    obtain ⟨p, us, rfl, q, ru⟩ := rv.rdOf s e1
    exact ⟨p, us, rfl, .inl ⟨q, fun l hl => k.newT s hl ru⟩⟩
  · cases hf
theorem RepV.seqOf {g : Gx} {w : Wo} {H : Hp} {S : Store} {d : D} {v : V} {xs : List D} (s : RepS g w S H) (r : RepV g w H d v) (e : seqOf S d = some xs) : ∃ p vs, v = .ref p ∧ (SqL g.K H p vs ∨ SqT g.K H p vs) ∧ RepVs g w H xs vs := by
  by_cases hd : ∃ ys, d = .tup ys
  · obtain ⟨ys, rfl⟩ := hd
    cases e
    obtain ⟨p, us, rfl, q, ru⟩ := r.tupOf rfl
    exact ⟨p, us, rfl, .inr q, ru⟩
  · have e' : DZ.rdOf S d = some xs := by
      cases d with
      | tup ys => exact absurd ⟨ys, rfl⟩ hd
      | _ => exact e
    obtain ⟨p, us, rfl, q, ru⟩ := r.rdOf s e'
    exact ⟨p, us, rfl, .inl q, ru⟩
theorem c_list : CallR X (.type "list") (lCL (Cx.g X cl) nList) := CallR.imp call_list_of fun xs H Q h => by
  obtain ⟨w, S, ds, d, S', s, r, hf, k⟩ := h
  unfold nList at hf
  split at hf
  · obtain ⟨ys, e1, hf⟩ := obind hf
    cases hf
    obtain ⟨v, rfl, rv⟩ := r.one'
    obtain ⟨p, us, rfl, q, ru⟩ := rv.seqOf s e1
    exact ⟨p, us, rfl, q, fun l hl => kl_new k .refl s ru hl⟩
  · cases hf
theorem c_sorted : CallR X (.builtin "sorted") (lCL (Cx.g X cl) nSorted) := CallR.imp cr_sortedI fun xs H Q h => by
  obtain ⟨w, S, ds, d, S', s, r, hf, k⟩ := h
  unfold nSorted at hf
  split at hf
  · obtain ⟨ys, e1, hf⟩ := obind hf
    obtain ⟨ns, e2, hf⟩ := obind hf
    cases hf
    obtain ⟨p, rfl, q⟩ := arg_ints s r e1 e2
    refine ⟨p, ns, rfl, q, fun ns' l pm ps hl => ?_⟩
    have : ns' = ns.mergeSort (fun a b => decide (a ≤ b)) := sorted_unique (pm.trans (List.mergeSort_perm _ _).symm) ps (msort_sorted ns)
    rw [← this] at k
    exact kl_new k .refl s (RepVs.of_ints ns') hl
  · cases hf
end

/-! ### methods of lists -/
section
variable {X : Cx} {cl : Str → Option Addr} {o e f i value : Expr} {es : List Expr} {fa : AF} {fo fe ff : EF} {pos apos cpos : Pos} {T id : String} {m : Str} {F : D → FF}
/-- a method of a built-in type T, the receiver told by isT -/
def eBm (isT : Store → D → Prop) [∀ S d, Decidable (isT S d)] (F : D → FF) (fo : EF) (fa : AF) : EF := fun ρ S => (fo ρ S).bind fun r => if isT r.2 r.1 then (fa ρ r.2).bind fun q => F r.1 q.1 q.2 else none
def isLst (S : Store) (d : D) : Prop := (lstOf S d).isSome = true
instance (S : Store) (d : D) : Decidable (isLst S d) := inferInstanceAs (Decidable (_ = true))
theorem isLst_ty {g : Gx} {w : Wo} {H : Hp} {S : Store} {d : D} {v : V} (s : RepS g w S H) (r : RepV g w H d v) (h : isLst S d) : tyV g.K "list" v H := by
  obtain ⟨xs, e⟩ := Option.isSome_iff_exists.mp h
  obtain ⟨p, vs, rfl, q, _⟩ := r.lstOf s e
  exact .inl ⟨rfl, _, SqL.of q⟩
theorem d_bm (hT : ∀ {w S H d v}, RepS (Cx.g X cl) w S H → RepV (Cx.g X cl) w H d v → isLst S d → tyV X.K T v H) (pa : PlainAttrs T) (slot : Slot T m id) (hty : typeOf (.builtin id) = pure (.type "method_descriptor")) (hm : MtR X id (lM (Cx.g X cl) F)) (ho : PD X cl o fo) (ha : AD X cl (e :: es) fa)
    (hbase : attributeBase o m X.env (eval o X.env) = eval o X.env := by rfl)
    (hfew : ((backTo cpos (starEach (e :: es) X.env)).all (fun x => !x.1) && (backToKw cpos (keywordEach [] X.env)).all (fun x => x.1.isSome)
      && decide ((e :: es).length + ([] : List Keyword).length + (if ([] : List Keyword).isEmpty then 0 else 1) < 30)) = true := by rfl)
    (hline : (apos.endLine == cpos.line) = true := by rfl) (hs : starEach (e :: es) X.env = (false, eval e X.env) :: starEach es X.env := by rfl) (hplain : (backTo cpos (starEach es X.env)).any (·.1) = false := by rfl) :
    PD X cl (.Call (.Attribute o m apos) (e :: es) [] cpos) (eBm isLst F fo fa) := PE.imp (pe_bm pa slot hty hm ho ha hbase hfew hline hs hplain) fun σ H Q h => by
  obtain ⟨w, ρ, S, d, S', hE, hS, hf, k⟩ := h
  obtain ⟨⟨x, S1⟩, h1, hf⟩ := obind hf
  dsimp only at hf
  split at hf
  · rename_i hl
    obtain ⟨⟨y, S2⟩, h2, hf⟩ := obind hf
    refine ⟨w, ρ, S, x, S1, hE, hS, h1, fun w1 H1 v a1 s1 r1 => ⟨hT s1 r1 hl, w1, ρ, S1, y, S2, hE.adv a1 hS, s1, h2, fun w2 H2 us a2 s2 r2 => ⟨w2, S2, x, y, d, S', s2, r1.adv a2 s1 _ _, r2, hf, (k.from a1 s1).from a2 s2⟩⟩⟩
  · cases hf
theorem d_bm0 (hT : ∀ {w S H d v}, RepS (Cx.g X cl) w S H → RepV (Cx.g X cl) w H d v → isLst S d → tyV X.K T v H) (pa : PlainAttrs T) (slot : Slot T m id) (hty : typeOf (.builtin id) = pure (.type "method_descriptor")) (hm : MtR X id (lM (Cx.g X cl) F)) (ho : PD X cl o fo)
    (hbase : attributeBase o m X.env (eval o X.env) = eval o X.env := by rfl) (hline : (apos.endLine == cpos.line) = true := by rfl) :
    PD X cl (.Call (.Attribute o m apos) [] [] cpos) (eBm isLst F fo aNil) := PE.imp (pe_bm0 pa slot hty hm ho hbase hline) fun σ H Q h => by
  obtain ⟨w, ρ, S, d, S', hE, hS, hf, k⟩ := h
  obtain ⟨⟨x, S1⟩, h1, hf⟩ := obind hf
  dsimp only at hf
  split at hf
  · rename_i hl
    obtain ⟨⟨y, S2⟩, h2, hf⟩ := obind hf
    cases h2
    refine ⟨w, ρ, S, x, _, hE, hS, h1, fun w1 H1 v a1 s1 r1 => ⟨hT s1 r1 hl, w1, _, x, [], d, S', s1, r1, by simp [RepVs], hf, k.from a1 s1⟩⟩
  · cases hf
/-- a mutable list -/
def locOf (S : Store) (d : D) : Option (Nat × List D) := match d with
  | .loc n => match S[n]? with
    | some (.lst xs) => some (n, xs)
    | _ => none
  | _ => none
theorem RepV.locOf {g : Gx} {w : Wo} {H : Hp} {S : Store} {d : D} {v : V} {n : Nat} {xs : List D} (s : RepS g w S H) (r : RepV g w H d v) (e : locOf S d = some (n, xs)) : ∃ p vs, v = .ref p ∧ w.io[n]? = some p ∧ H p = some (.lst vs) ∧ RepVs g w H xs vs := by
  unfold DZ.locOf at e
  split at e
  · rename_i m
    split at e
    · rename_i ys hm
      cases e
      exact locL s r hm
    · cases e
  · cases e
def mAppend : D → FF := fun a ds S => (locOf S a).bind fun q => match ds with
  | [d] => if q.2.length < 1000000 then some (.non, S.set q.1 (.lst (q.2 ++ [d]))) else none
  | _ => none
def mPop : D → FF := fun a ds S => (locOf S a).bind fun q => match ds with
  | [] => (q.2[q.2.length - 1]?).bind fun d => some (d, S.set q.1 (.lst q.2.dropLast))
  | _ => none
def mPopAt : D → FF := fun a ds S => (locOf S a).bind fun q => match ds with
  | [.int i] => if -(2 ^ 63) ≤ i ∧ i < 2 ^ 63 then (seqIndex? i q.2.length).bind fun j => (q.2[j]?).bind fun d => some (d, S.set q.1 (.lst (q.2.eraseIdx j))) else none
  | _ => none
def mRemove : D → FF := fun a ds S => (locOf S a).bind fun q => match ds with
  | [.int i] => (intsOf q.2).bind fun ns => if i ∈ ns then some (.non, S.set q.1 (.lst ((ns.erase i).map .int))) else none
  | _ => none
def mExtend : D → FF := fun a ds S => (locOf S a).bind fun q => match ds with
  | [d] => (lstOf S d).bind fun ys => if q.2.length + ys.length ≤ 1000000 then some (.non, S.set q.1 (.lst (q.2 ++ ys))) else none
  | _ => none
theorem dropLast_rep {g : Gx} {w : Wo} {H : Hp} {xs : List D} {vs : List V} (r : RepVs g w H xs vs) : RepVs g w H xs.dropLast vs.dropLast := by
  rw [List.dropLast_eq_take, List.dropLast_eq_take, ← r.length]
  exact r.take _
theorem m_append : MtR X "list.append" (lM (Cx.g X cl) mAppend) := MtR.imp (show MtR X "list.append" rAppend from mt_append) fun x xs H Q h => by
  obtain ⟨w, S, a, ds, d, S', s, ra, r, hf, k⟩ := h
  obtain ⟨⟨n, ys⟩, e, hf⟩ := obind hf
  dsimp only at hf
  split at hf
  · split at hf
    · rename_i hl
      cases hf
      obtain ⟨p, vs, rfl, hp, q, rs⟩ := ra.locOf s e
      obtain ⟨v, rfl, rv⟩ := r.one'
      exact ⟨p, vs, v, rfl, rfl, q, by rw [← rs.length]; exact Nat.lt_of_lt_of_le hl million, k.writeL s hp q (rs.append (RepVs.one rv)) (by simp [RepV])⟩
    · cases hf
  · cases hf
theorem m_pop : MtR X "list.pop" (lM (Cx.g X cl) mPop) := MtR.imp mt_pop fun x xs H Q h => by
  obtain ⟨w, S, a, ds, d, S', s, ra, r, hf, k⟩ := h
  obtain ⟨⟨n, ys⟩, e, hf⟩ := obind hf
  dsimp only at hf
  split at hf
  · obtain ⟨z, e2, hf⟩ := obind hf
    cases hf
    obtain ⟨p, vs, rfl, hp, q, rs⟩ := ra.locOf s e
    simp only [RepVs] at r
    subst r
    obtain ⟨u, hu, ru⟩ := rs.get e2
    exact ⟨p, vs, u, rfl, rfl, q, by rw [← rs.length]; exact hu, k.writeL s hp q (dropLast_rep rs) (ru.adv (Adv.write hp (nfL q)) s _ _)⟩
  · cases hf
theorem m_popAt : MtR X "list.pop" (lM (Cx.g X cl) mPopAt) := MtR.imp mt_popAt fun x xs H Q h => by
  obtain ⟨w, S, a, ds, d, S', s, ra, r, hf, k⟩ := h
  obtain ⟨⟨n, ys⟩, e, hf⟩ := obind hf
  dsimp only at hf
  split at hf
  · split at hf
    · rename_i hl
      obtain ⟨j, e1, hf⟩ := obind hf
      obtain ⟨z, e2, hf⟩ := obind hf
      cases hf
      obtain ⟨p, vs, rfl, hp, q, rs⟩ := ra.locOf s e
      obtain ⟨v, rfl, rv⟩ := r.one'
      simp only [RepV] at rv
      subst rv
      obtain ⟨u, hu, ru⟩ := rs.get e2
      exact ⟨p, vs, _, j, u, rfl, rfl, q, hl.1, hl.2, by rw [← rs.length]; exact e1, hu, k.writeL s hp q (rs.eraseIdx j) (ru.adv (Adv.write hp (nfL q)) s _ _)⟩
    · cases hf
  · cases hf
theorem erase_at {ns : List Int} {i : Int} (h : i ∈ ns) : ∃ j, ns[j]? = some i ∧ (∀ m : Nat, m < j → ns[m]? ≠ some i) ∧ ns.erase i = ns.eraseIdx j := by
  induction ns with
  | nil => cases h
  | cons n ns ih =>
    by_cases e : n = i
    · subst e
      exact ⟨0, rfl, fun m hm => absurd hm (by omega), by simp⟩
    · obtain ⟨j, h1, h2, h3⟩ := ih ((List.mem_cons.mp h).resolve_left fun z => e z.symm)
      refine ⟨j + 1, by simpa using h1, fun m hm => ?_, ?_⟩
      · cases m with
        | zero => simpa using e
        | succ m => simpa using h2 m (by omega)
      · rw [List.erase_cons_tail (by simpa using e), h3]; rfl
theorem m_remove : MtR X "list.remove" (lM (Cx.g X cl) mRemove) := MtR.imp (show MtR X "list.remove" rRemI from mt_remove) fun x xs H Q h => by
  obtain ⟨w, S, a, ds, d, S', s, ra, r, hf, k⟩ := h
  obtain ⟨⟨n, ys⟩, e, hf⟩ := obind hf
  dsimp only at hf
  split at hf
  · obtain ⟨ns, e1, hf⟩ := obind hf
    split at hf
    · rename_i hl
      cases hf
      obtain ⟨p, vs, rfl, hp, q, rs⟩ := ra.locOf s e
      rw [intsOf_is e1] at rs
      rw [rs.ints] at q
      obtain ⟨v, rfl, rv⟩ := r.one'
      simp only [RepV] at rv
      subst rv
      obtain ⟨j, h1, h2, h3⟩ := erase_at hl
      rw [h3] at k
      exact ⟨p, ns, _, j, rfl, rfl, q, h1, h2, k.writeL s hp q (RepVs.of_ints _) (by simp [RepV])⟩
    · cases hf
  · cases hf
theorem m_extend : MtR X "list.extend" (lM (Cx.g X cl) mExtend) := MtR.imp (show MtR X "list.extend" rExtend from mt_extend) fun x xs H Q h => by
  obtain ⟨w, S, a, ds, d, S', s, ra, r, hf, k⟩ := h
  obtain ⟨⟨n, ys⟩, e, hf⟩ := obind hf
  dsimp only at hf
  split at hf
  · obtain ⟨zs, e1, hf⟩ := obind hf
    split at hf
    · rename_i hl
      cases hf
      obtain ⟨p, vs, rfl, hp, q, rs⟩ := ra.locOf s e
      obtain ⟨v, rfl, rv⟩ := r.one'
      obtain ⟨p2, us, rfl, q2, rz⟩ := rv.lstOf s e1
      exact ⟨p, p2, vs, us, rfl, rfl, q, q2, by rw [← rs.length, ← rz.length]; exact Nat.le_trans hl million, k.writeL s hp q (rs.append rz) (by simp [RepV])⟩
    · cases hf
  · cases hf
theorem d_append (ho : PD X cl o fo) (ha : PD X cl e fe) (hbase : attributeBase o "append" X.env (eval o X.env) = eval o X.env := by rfl)
    (hfew : ((backTo cpos (starEach [e] X.env)).all (fun x => !x.1) && (backToKw cpos (keywordEach [] X.env)).all (fun x => x.1.isSome)
      && decide ([e].length + ([] : List Keyword).length + (if ([] : List Keyword).isEmpty then 0 else 1) < 30)) = true := by rfl)
    (hline : (apos.endLine == cpos.line) = true := by rfl) (hs : starEach [e] X.env = (false, eval e X.env) :: starEach [] X.env := by rfl) (hplain : (backTo cpos (starEach [] X.env)).any (·.1) = false := by rfl) :
    PD X cl (.Call (.Attribute o "append" apos) [e] [] cpos) (eBm isLst mAppend fo (aCons fe aNil)) :=
  d_bm isLst_ty PySem.F.plainAttrs_list PySem.F.slot_list_append PySem.F.type_list_append m_append ho (d_cons ha d_nil hs) hbase hfew hline hs hplain
theorem d_remove (ho : PD X cl o fo) (ha : PD X cl e fe) (hbase : attributeBase o "remove" X.env (eval o X.env) = eval o X.env := by rfl)
    (hfew : ((backTo cpos (starEach [e] X.env)).all (fun x => !x.1) && (backToKw cpos (keywordEach [] X.env)).all (fun x => x.1.isSome)
      && decide ([e].length + ([] : List Keyword).length + (if ([] : List Keyword).isEmpty then 0 else 1) < 30)) = true := by rfl)
    (hline : (apos.endLine == cpos.line) = true := by rfl) (hs : starEach [e] X.env = (false, eval e X.env) :: starEach [] X.env := by rfl) (hplain : (backTo cpos (starEach [] X.env)).any (·.1) = false := by rfl) :
    PD X cl (.Call (.Attribute o "remove" apos) [e] [] cpos) (eBm isLst mRemove fo (aCons fe aNil)) :=
  d_bm isLst_ty PySem.F.plainAttrs_list PySem.F.slot_list_remove PySem.F.type_list_remove m_remove ho (d_cons ha d_nil hs) hbase hfew hline hs hplain
theorem d_extend (ho : PD X cl o fo) (ha : PD X cl e fe) (hbase : attributeBase o "extend" X.env (eval o X.env) = eval o X.env := by rfl)
    (hfew : ((backTo cpos (starEach [e] X.env)).all (fun x => !x.1) && (backToKw cpos (keywordEach [] X.env)).all (fun x => x.1.isSome)
      && decide ([e].length + ([] : List Keyword).length + (if ([] : List Keyword).isEmpty then 0 else 1) < 30)) = true := by rfl)
    (hline : (apos.endLine == cpos.line) = true := by rfl) (hs : starEach [e] X.env = (false, eval e X.env) :: starEach [] X.env := by rfl) (hplain : (backTo cpos (starEach [] X.env)).any (·.1) = false := by rfl) :
    PD X cl (.Call (.Attribute o "extend" apos) [e] [] cpos) (eBm isLst mExtend fo (aCons fe aNil)) :=
  d_bm isLst_ty PySem.F.plainAttrs_list PySem.F.slot_list_extend PySem.F.type_list_extend m_extend ho (d_cons ha d_nil hs) hbase hfew hline hs hplain
theorem d_popAt (ho : PD X cl o fo) (ha : PD X cl e fe) (hbase : attributeBase o "pop" X.env (eval o X.env) = eval o X.env := by rfl)
    (hfew : ((backTo cpos (starEach [e] X.env)).all (fun x => !x.1) && (backToKw cpos (keywordEach [] X.env)).all (fun x => x.1.isSome)
      && decide ([e].length + ([] : List Keyword).length + (if ([] : List Keyword).isEmpty then 0 else 1) < 30)) = true := by rfl)
    (hline : (apos.endLine == cpos.line) = true := by rfl) (hs : starEach [e] X.env = (false, eval e X.env) :: starEach [] X.env := by rfl) (hplain : (backTo cpos (starEach [] X.env)).any (·.1) = false := by rfl) :
    PD X cl (.Call (.Attribute o "pop" apos) [e] [] cpos) (eBm isLst mPopAt fo (aCons fe aNil)) :=
  d_bm isLst_ty PySem.F.plainAttrs_list PySem.F.slot_list_pop PySem.F.type_list_pop m_popAt ho (d_cons ha d_nil hs) hbase hfew hline hs hplain
theorem d_pop (ho : PD X cl o fo) (hbase : attributeBase o "pop" X.env (eval o X.env) = eval o X.env := by rfl) (hline : (apos.endLine == cpos.line) = true := by rfl) :
    PD X cl (.Call (.Attribute o "pop" apos) [] [] cpos) (eBm isLst mPop fo aNil) :=
  d_bm0 isLst_ty PySem.F.plainAttrs_list PySem.F.slot_list_pop PySem.F.type_list_pop m_pop ho hbase hline
/-! ### o[i] = e, a mutable list -/
def gSubF (fo fi : EF) : GF := fun d ρ S => (fo ρ S).bind fun r => (fi ρ r.2).bind fun q => match q.1 with
  | .int i => (locOf q.2 r.1).bind fun z => (ixN z.2.length i).bind fun j => some (ρ, q.2.set z.1 (.lst (z.2.set j d)))
  | _ => none
theorem g_sub (ho : PD X cl o fo) (hi : PD X cl i fe) (ha : ∀ v, assign (.Subscript o i pos) X.env v = (do
      let ov ← holding [v] (eval o X.env)
      let iv ← holding [v, ov] (eval i X.env)
      standAt pos
      holding [v, ov, iv] (setItem ov iv v)
      release [v, ov, iv] []) := by intro _; rfl) : GD X cl (.Subscript o i pos) (gSubF fo fe) := PG.imp (pg_sub ho hi set_list ha) fun v σ H Q h => by
  obtain ⟨w, ρ, S, d, ρ', S', hE, hS, hd, hf, k⟩ := h
  obtain ⟨⟨x, S1⟩, h1, hf⟩ := obind hf
  obtain ⟨⟨y, S2⟩, h2, hf⟩ := obind hf
  dsimp only at hf
  split at hf
  · obtain ⟨⟨n, xs⟩, e1, hf⟩ := obind hf
    obtain ⟨j, e2, hf⟩ := obind hf
    cases hf
    refine ⟨w, ρ, S, x, S1, hE, hS, h1, fun w1 H1 u a1 s1 r1 => ⟨w1, ρ, S1, _, _, hE.adv a1 hS, s1, h2, fun w2 H2 z a2 s2 r2 => ?_⟩⟩
    obtain ⟨p, vs, rfl, hp, q, rs⟩ := (r1.adv a2 s1 _ _).locOf s2 e1
    simp only [RepV] at r2
    subst r2
    have rd := (hd.adv a1 hS _ _).adv a2 s1 _ _
    have aw : Adv w2 H2 w2 (upd H2 p (.lst (vs.set j v))) := Adv.write hp (nfL q)
    refine ⟨p, vs, _, j, rfl, rfl, q, by rw [← rs.length]; exact e2, ?_⟩
    exact k w2 σ _ ((a1.trans s1 a2).trans s2 aw) (((hE.adv a1 hS).adv a2 s1).adv aw s2) (s2.write hp (nfL q) ⟨_, upd_same, RepVs.adv aw s2 _ _ (rs.set j rd)⟩)
  · cases hf
end
end DZ

/-! DzJ: isinstance, lists and tuples of ranges, list.index, dicts. -/
namespace DZ
open PySem PySem.Spec PyProof.Rows L2
open Classical

/-! ### isinstance with a built-in type -/
def tyN (S : Store) : D → Option String
  | .non => some "NoneType"
  | .bl _ => some "bool"
  | .int _ => some "int"
  | .str _ => some "str"
  | .tup _ => some "tuple"
  | .lst _ => some "list"
  | .scr _ => some "list"
  | .obj _ _ => none
  | .loc n => match S[n]? with
    | some (.lst _) => some "list"
    | some (.dct _) => some "dict"
    | _ => none
def eIsi (T : String) (fa : EF) : EF := fun ρ S => (fa ρ S).bind fun r => (tyN r.2 r.1).bind fun t => (kitB t T).bind fun z => some (.bl z, r.2)
theorem kit_ii : kitB "int" "int" = some true := by decide +kernel
theorem kit_bi : kitB "bool" "int" = some true := by decide +kernel
theorem kit_ni : kitB "NoneType" "int" = some false := by decide +kernel
theorem kit_si : kitB "str" "int" = some false := by decide +kernel
theorem kit_ti : kitB "tuple" "int" = some false := by decide +kernel
theorem kit_li : kitB "list" "int" = some false := by decide +kernel
theorem kit_ib : kitB "int" "bool" = some false := by decide +kernel
theorem kit_bb : kitB "bool" "bool" = some true := by decide +kernel
theorem kit_nb : kitB "NoneType" "bool" = some false := by decide +kernel
theorem kit_sb : kitB "str" "bool" = some false := by decide +kernel
theorem kit_tb : kitB "tuple" "bool" = some false := by decide +kernel
theorem kit_lb : kitB "list" "bool" = some false := by decide +kernel
theorem kit_is : kitB "int" "str" = some false := by decide +kernel
theorem kit_bs : kitB "bool" "str" = some false := by decide +kernel
theorem kit_ns : kitB "NoneType" "str" = some false := by decide +kernel
theorem kit_ss : kitB "str" "str" = some true := by decide +kernel
theorem kit_ts : kitB "tuple" "str" = some false := by decide +kernel
theorem kit_ls : kitB "list" "str" = some false := by decide +kernel
theorem kit_it : kitB "int" "tuple" = some false := by decide +kernel
theorem kit_bt : kitB "bool" "tuple" = some false := by decide +kernel
theorem kit_nt : kitB "NoneType" "tuple" = some false := by decide +kernel
theorem kit_st : kitB "str" "tuple" = some false := by decide +kernel
theorem kit_tt : kitB "tuple" "tuple" = some true := by decide +kernel
theorem kit_lt : kitB "list" "tuple" = some false := by decide +kernel
theorem kit_il : kitB "int" "list" = some false := by decide +kernel
theorem kit_bl : kitB "bool" "list" = some false := by decide +kernel
theorem kit_nl : kitB "NoneType" "list" = some false := by decide +kernel
theorem kit_sl : kitB "str" "list" = some false := by decide +kernel
theorem kit_tl : kitB "tuple" "list" = some false := by decide +kernel
theorem kit_ll : kitB "list" "list" = some true := by decide +kernel

section
variable {g : Gx} {w : Wo} {H : Hp} {S : Store} {d : D} {v : V}
theorem RepV.ty {t : String} (s : RepS g w S H) (r : RepV g w H d v) (e : tyN S d = some t) : TyX g.K H v (.type t) := by
  cases d with
  | non => cases e; simp only [RepV] at r; subst r; exact .base .non
  | bl b => cases e; simp only [RepV] at r; subst r; exact .base (.bl b)
  | int b => cases e; simp only [RepV] at r; subst r; exact .base (.int b)
  | str b => cases e; simp only [RepV] at r; subst r; exact .base (.str b)
  | tup xs =>
    cases e
    simp only [RepV] at r
    obtain ⟨p, vs, rfl, q, _⟩ := r
    rcases q with (q | ⟨o, q⟩) | ⟨o, its, n, q, c, _⟩
    · exact .base (.tup q)
    · exact .fTuple q
    · exact .kTuple q c
  | lst xs =>
    cases e
    simp only [RepV] at r
    obtain ⟨p, vs, rfl, q, _⟩ := r
    exact .base (.lst q)
  | scr ns =>
    cases e
    simp only [RepV] at r
    obtain ⟨p, rfl, q⟩ := r
    have h : SqL g.K H p (ns.map V.int) := by
      rcases q with ⟨q, _⟩ | q
      · exact .inl q
      · exact q H
    rcases h with (q | ⟨o, q⟩) | ⟨o, its, n, q, c, _⟩
    · exact .base (.lst q)
    · exact .base (.frz q)
    · exact .kList q c
  | obj _ _ => cases e
  | loc n =>
    simp only [RepV] at r
    obtain ⟨p, hp, rfl⟩ := r
    obtain ⟨c, hc, hcell⟩ := s.cell hp
    unfold tyN at e
    simp only [hc] at e
    cases c with
    | lst xs => cases e; obtain ⟨vs, q, _⟩ := hcell; exact .base (.lst q)
    | dct xs => cases e; obtain ⟨vs, q, _⟩ := hcell; exact .base (.dK q)
    | _ => cases e
end
section
variable {X : Cx} {cl : Str → Option Addr} {a e : Expr} {fa : EF} {pos p p2 : Pos}
theorem d_isi (T : String) {tn : Str} (ha : PD X cl a fa) (hm : X.mg "isinstance" = none) (hmT : X.mg tn = none) (hvT : bootBuiltins tn = some (.type T) := by decide +kernel) (hgT : Gl X tn := by rfl) (hnT : tn ≠ "__name__" := by decide) (hdT : (tn == ("__debug__" : Str)) = false := by decide)
    (hv : bootBuiltins "isinstance" = some (.builtin "isinstance") := by decide +kernel) (hg : Gl X "isinstance" := by rfl)
    (hs : starEach [a, .Name tn p2] X.env = (false, eval a X.env) :: starEach [.Name tn p2] X.env := by rfl) (hs2 : starEach [.Name tn p2] X.env = (false, eval (.Name tn p2) X.env) :: starEach [] X.env := by rfl)
    (hpl : (backTo pos (starEach [.Name tn p2] X.env)).any (·.1) = false := by rfl) : PD X cl (.Call (.Name "isinstance" p) [a, .Name tn p2] [] pos) (eIsi T fa) :=
  PE.imp (pe_callB call_isi hg hm hv (pa_cons ha (pa_cons (pe_bltn (v := .ty T) hgT hmT hvT rfl hnT hdT) pa_nil hs2) hs) (by decide) (by decide) hs hpl) fun σ H Q h => by
    obtain ⟨w, ρ, S, d, S', hE, hS, hf, k⟩ := h
    obtain ⟨⟨x, S1⟩, h1, hf⟩ := obind hf
    obtain ⟨t, h2, hf⟩ := obind hf
    obtain ⟨z, h3, hf⟩ := obind hf
    cases hf
    refine ⟨w, ρ, S, x, S1, hE, hS, h1, fun w1 H1 v a1 s1 r1 => ?_⟩
    exact ⟨v, .ty T, _, _, z, rfl, .ty T, r1.ty s1 h2, kit_ty h3, (k.from a1 s1).now s1 (by simp [RepV])⟩
/-! ### list(range(..)), tuple(range(..)) -/
def rgF (f : AF) : AF := fun ρ S => (f ρ S).bind fun r => match r.1 with
  | [.int j] => if -1000000 ≤ j ∧ j ≤ 1000000 then some (rngD 0 j.toNat, r.2) else none
  | [.int i, .int j] => if (-1000000 ≤ i ∧ i ≤ 1000000) ∧ -1000000 ≤ j ∧ j ≤ 1000000 then some (rngD i (j - i).toNat, r.2) else none
  | _ => none
def eRgT (f : AF) : EF := fun ρ S => (rgF f ρ S).bind fun r => some (.tup r.1, r.2)
theorem rng_rep {g : Gx} {w : Wo} {H : Hp} (a b : Int) : RepVs g w H (rngD a (b - a).toNat) (rgV a b) := by
  have : ∀ l : List Nat, RepVs g w H (l.map fun i => D.int (a + (i : Nat))) (l.map fun i => V.int (a + (i : Nat))) := fun l => by
    induction l with
    | nil => simp [RepVs]
    | cons n l ih =>
      simp only [List.map_cons, RepVs, RepV]
      exact ⟨_, _, rfl, rfl, ih⟩
  exact this _
variable {f1 f2 : EF} {b : Expr}
theorem l_listRg1 (hc : X.calm = true) (hm : X.mg "list" = none) (hmr : X.mg "range" = none) (ha : PD X cl a f1) (hg : Gl X "list" := by rfl) (hgr : Gl X "range" := by rfl)
    (na : starEach [.Call (.Name "range" p2) [a] [] pos] X.env = (false, eval (.Call (.Name "range" p2) [a] [] pos) X.env) :: starEach [] X.env := by rfl) (na2 : starEach [a] X.env = (false, eval a X.env) :: starEach [] X.env := by rfl) {pos' : Pos} :
    LD X cl (.Call (.Name "list" p) [.Call (.Name "range" p2) [a] [] pos] [] pos') (rgF (aCons f1 aNil)) := PE.imp (pe_listRg hc hg hm (prg_1 hgr hmr ha na2) na) fun σ H Q h => by
  obtain ⟨w, ρ, S, d, S', hE, hS, hf, k⟩ := h
  obtain ⟨⟨x, S1⟩, h1, hf⟩ := obind hf
  obtain ⟨⟨y, S2⟩, h2, h1⟩ := obind h1
  obtain ⟨⟨_, _⟩, h3, h1⟩ := obind h1
  cases h3
  cases h1
  dsimp only at hf
  cases y with
  | int j =>
    change (if -1000000 ≤ j ∧ j ≤ 1000000 then some (rngD 0 j.toNat, S2) else none) = _ at hf
    split at hf
    · cases hf
      refine ⟨w, ρ, S, _, _, hE, hS, h2, fun w1 H1 v a1 s1 r1 => ?_⟩
      simp only [RepV] at r1
      refine ⟨j, r1, ⟨by omega, by omega, by omega, by omega, by omega⟩, fun q hq => ?_⟩
      have := rng_rep (g := Cx.g X cl) (w := w1) (H := H1) 0 j
      rw [show j - 0 = j by omega] at this
      exact kl_new k a1 s1 this hq
    · cases hf
  | _ => cases hf
theorem l_listRg2 (hc : X.calm = true) (hm : X.mg "list" = none) (hmr : X.mg "range" = none) (ha : PD X cl a f1) (hb : PD X cl b f2) (hg : Gl X "list" := by rfl) (hgr : Gl X "range" := by rfl)
    (na : starEach [.Call (.Name "range" p2) [a, b] [] pos] X.env = (false, eval (.Call (.Name "range" p2) [a, b] [] pos) X.env) :: starEach [] X.env := by rfl) (na2 : starEach [a, b] X.env = (false, eval a X.env) :: starEach [b] X.env := by rfl)
    (nb : starEach [b] X.env = (false, eval b X.env) :: starEach [] X.env := by rfl) (hp : (backTo pos (starEach [b] X.env)).any (·.1) = false := by rfl) {pos' : Pos} :
    LD X cl (.Call (.Name "list" p) [.Call (.Name "range" p2) [a, b] [] pos] [] pos') (rgF (aCons f1 (aCons f2 aNil))) := PE.imp (pe_listRg hc hg hm (prg_2 hgr hmr ha hb na2 nb hp) na) fun σ H Q h => by
  obtain ⟨w, ρ, S, d, S', hE, hS, hf, k⟩ := h
  obtain ⟨⟨x, S1⟩, h1, hf⟩ := obind hf
  obtain ⟨⟨y, S2⟩, h2, h1⟩ := obind h1
  obtain ⟨⟨_, _⟩, h3, h1⟩ := obind h1
  obtain ⟨⟨z, S3⟩, h4, h3⟩ := obind h3
  obtain ⟨⟨_, _⟩, h5, h3⟩ := obind h3
  cases h5
  cases h3
  cases h1
  dsimp only at hf
  cases y with
  | int i =>
    cases z with
    | int j =>
      change (if (-1000000 ≤ i ∧ i ≤ 1000000) ∧ -1000000 ≤ j ∧ j ≤ 1000000 then some (rngD i (j - i).toNat, S3) else none) = _ at hf
      split at hf
      · cases hf
        refine ⟨w, ρ, S, _, _, hE, hS, h2, fun w1 H1 v a1 s1 r1 => ⟨w1, ρ, _, _, _, hE.adv a1 hS, s1, h4, fun w2 H2 u a2 s2 r2 => ?_⟩⟩
        simp only [RepV] at r1 r2
        refine ⟨i, j, r1, r2, ⟨by omega, by omega, by omega, by omega, by omega⟩, fun q hq => ?_⟩
        exact kl_new k (a1.trans s1 a2) s2 (rng_rep i j) hq
      · cases hf
    | _ => cases hf
  | _ => cases hf
theorem d_tupRg1 (hc : X.calm = true) (hm : X.mg "tuple" = none) (hmr : X.mg "range" = none) (ha : PD X cl a f1) (hg : Gl X "tuple" := by rfl) (hgr : Gl X "range" := by rfl)
    (na : starEach [.Call (.Name "range" p2) [a] [] pos] X.env = (false, eval (.Call (.Name "range" p2) [a] [] pos) X.env) :: starEach [] X.env := by rfl) (na2 : starEach [a] X.env = (false, eval a X.env) :: starEach [] X.env := by rfl) {pos' : Pos} :
    PD X cl (.Call (.Name "tuple" p) [.Call (.Name "range" p2) [a] [] pos] [] pos') (eRgT (aCons f1 aNil)) := PE.imp (pe_tupRg hc hg hm (prg_1 hgr hmr ha na2) na) fun σ H Q h => by
  obtain ⟨w, ρ, S, d, S', hE, hS, hf, k⟩ := h
  obtain ⟨⟨xs, Sx⟩, hfa, hz⟩ := obind hf
  clear hf
  cases hz
  obtain ⟨⟨x, S1⟩, h1, hf⟩ := obind hfa
  clear hfa
  obtain ⟨⟨y, S2⟩, h2, h1⟩ := obind h1
  obtain ⟨⟨_, _⟩, h3, h1⟩ := obind h1
  cases h3
  cases h1
  dsimp only at hf
  cases y with
  | int j =>
    change (if -1000000 ≤ j ∧ j ≤ 1000000 then some (rngD 0 j.toNat, S2) else none) = _ at hf
    split at hf
    · cases hf
      refine ⟨w, ρ, S, _, _, hE, hS, h2, fun w1 H1 v a1 s1 r1 => ?_⟩
      simp only [RepV] at r1
      refine ⟨j, r1, ⟨by omega, by omega, by omega, by omega, by omega⟩, fun q hq => ?_⟩
      have := rng_rep (g := Cx.g X cl) (w := w1) (H := H1) 0 j
      rw [show j - 0 = j by omega] at this
      exact (k.from a1 s1).newT s1 hq this
    · cases hf
  | _ => cases hf
end

/-! ### list.index of flat values -/
def flatD : D → Bool
  | .non => true
  | .bl _ => true
  | .int _ => true
  | .str _ => true
  | _ => false
def eqFD : D → D → Bool
  | .non, .non => true
  | .bl a, .bl b => a == b
  | .bl a, .int b => (if a then 1 else 0) == b
  | .int a, .bl b => a == (if b then 1 else 0)
  | .int a, .int b => a == b
  | .str a, .str b => a == b
  | _, _ => false
def mIndex : D → FF := fun a ds S => (rdOf S a).bind fun xs => match ds with
  | [d] => if flatD d = true ∧ xs.all flatD = true then (xs.findIdx? (eqFD · d)).bind fun j => some (.int (j : Nat), S) else none
  | _ => none
def isRd (S : Store) (d : D) : Prop := (rdOf S d).isSome = true
section
variable {g : Gx} {w : Wo} {H : Hp} {S : Store}
theorem flat_rep {d : D} {v : V} (r : RepV g w H d v) (h : flatD d = true) : flatV v = true := by
  cases d <;> first | (simp only [RepV] at r; subst r; rfl) | (simp [flatD] at h; done)
theorem eqF_rep {d e : D} {v u : V} (r : RepV g w H d v) (r2 : RepV g w H e u) (h : flatD d = true) (h2 : flatD e = true) : eqV v u = eqFD d e := by
  cases d <;> cases e <;> first | (simp only [RepV] at r r2; subst r r2; rfl) | (simp [flatD] at h; done) | (simp [flatD] at h2; done)
theorem flats_rep : ∀ {ds : List D} {vs : List V}, RepVs g w H ds vs → ds.all flatD = true → vs.all flatV = true
  | [], vs, r, _ => by simp only [RepVs] at r; subst r; rfl
  | d :: ds, vs, r, h => by
    simp only [RepVs] at r
    obtain ⟨v, t, rfl, r1, r2⟩ := r
    rw [List.all_cons, Bool.and_eq_true] at h
    rw [List.all_cons, Bool.and_eq_true]
    exact ⟨flat_rep r1 h.1, flats_rep r2 h.2⟩
theorem RepVs.get' {xs : List D} {vs : List V} {i : Nat} {u : V} (r : RepVs g w H xs vs) (h : vs[i]? = some u) : ∃ x, xs[i]? = some x ∧ RepV g w H x u := by
  have hi : i < xs.length := by rw [r.length]; exact (List.getElem?_eq_some_iff.mp h).1
  obtain ⟨v, h1, h2⟩ := r.get (x := xs[i]) (i := i) (by simp [hi])
  rw [h] at h1; cases h1
  exact ⟨_, by simp [hi], h2⟩
end
section
variable {X : Cx} {cl : Str → Option Addr} {o e f i value : Expr} {es : List Expr} {fa : AF} {fo fe ff : EF} {pos apos cpos : Pos}
theorem m_index : MtR X "list.index" (lM (Cx.g X cl) mIndex) := MtR.imp mt_index fun x xs H Q h => by
  obtain ⟨w, S, a, ds, d, S', s, ra, r, hf, k⟩ := h
  obtain ⟨ys, e, hf⟩ := obind hf
  split at hf
  · split at hf
    · rename_i y hl
      obtain ⟨j, e2, hf⟩ := obind hf
      cases hf
      obtain ⟨p, vs, rfl, q, rs⟩ := ra.rdOf s e
      obtain ⟨v, rfl, rv⟩ := r.one'
      obtain ⟨hj, hp, hno⟩ := List.findIdx?_eq_some_iff_getElem.mp e2
      obtain ⟨u, hu, ru⟩ := rs.get (x := ys[j]) (i := j) (by simp [hj])
      have fl := List.all_eq_true.mp hl.2
      refine ⟨p, vs, v, j, u, rfl, rfl, q, flat_rep rv hl.1, flats_rep rs hl.2, hu, ?_, fun m z hm hz => ?_, k.now s (by simp [RepV])⟩
      · rw [eqF_rep ru rv (fl _ (List.getElem_mem hj)) hl.1]
        exact hp
      · obtain ⟨x', hx, rx⟩ := rs.get' hz
        rw [eqF_rep rx rv (fl _ (List.mem_of_getElem? hx)) hl.1]
        obtain ⟨hm', ex⟩ := List.getElem?_eq_some_iff.mp hx
        have := hno m hm
        rw [ex] at this
        simpa using this
    · cases hf
  · cases hf
theorem d_index (ho : PD X cl o fo) (ha : PD X cl e fe) (hbase : attributeBase o "index" X.env (eval o X.env) = eval o X.env := by rfl)
    (hfew : ((backTo cpos (starEach [e] X.env)).all (fun x => !x.1) && (backToKw cpos (keywordEach [] X.env)).all (fun x => x.1.isSome)
      && decide ([e].length + ([] : List Keyword).length + (if ([] : List Keyword).isEmpty then 0 else 1) < 30)) = true := by rfl)
    (hline : (apos.endLine == cpos.line) = true := by rfl) (hs : starEach [e] X.env = (false, eval e X.env) :: starEach [] X.env := by rfl) (hplain : (backTo cpos (starEach [] X.env)).any (·.1) = false := by rfl) :
    PD X cl (.Call (.Attribute o "index" apos) [e] [] cpos) (eBm isLst mIndex fo (aCons fe aNil)) :=
  d_bm isLst_ty PySem.F.plainAttrs_list PySem.F.slot_list_index PySem.F.type_list_index m_index ho (d_cons ha d_nil hs) hbase hfew hline hs hplain
end

/-! ### dicts: int and text keys -/
def keyOfD : D → Option Key
  | .int i => some (.inl i)
  | .str x => some (.inr x)
  | _ => none
def getKD (kvs : List (Key × D)) (k : Key) : Option D := (kvs.find? fun kv => decide (kv.1 = k)).map (·.2)
def putKD (kvs : List (Key × D)) (k : Key) (d : D) : List (Key × D) := if (kvs.any fun kv => decide (kv.1 = k)) = true then kvs.map (fun kv => if kv.1 = k then (kv.1, d) else kv) else kvs ++ [(k, d)]
def dctOf (S : Store) (d : D) : Option (Nat × List (Key × D)) := match d with
  | .loc n => match S[n]? with
    | some (.dct kvs) => some (n, kvs)
    | _ => none
  | _ => none
section
variable {g : Gx} {w : Wo} {H : Hp} {S : Store} {d : D} {v : V} {k : Key}
theorem keyOfD_rep (r : RepV g w H d v) (e : keyOfD d = some k) : v = kV k := by
  cases d <;> simp only [keyOfD] at e <;> first | cases e | skip
  · simp only [RepV] at r; subst r; rfl
  · simp only [RepV] at r; subst r; rfl
theorem RepV.dctOf {n : Nat} {kvs : List (Key × D)} (s : RepS g w S H) (r : RepV g w H d v) (e : dctOf S d = some (n, kvs)) : ∃ p vs, v = .ref p ∧ w.io[n]? = some p ∧ H p = some (.dK vs) ∧ RepKs g w H kvs vs := by
  unfold DZ.dctOf at e
  split at e
  · rename_i m
    split at e
    · rename_i ys hm
      cases e
      simp only [RepV] at r
      obtain ⟨p, hp, rfl⟩ := r
      obtain ⟨vs, q, rs⟩ := s.at_ n _ p hm hp
      exact ⟨p, vs, rfl, hp, q, rs⟩
    · cases e
  · cases e
theorem RepKs.get : ∀ {kvs : List (Key × D)} {vs : List (Key × V)}, RepKs g w H kvs vs → (∀ d, getKD kvs k = some d → ∃ v, valV vs k = some v ∧ RepV g w H d v) ∧ (getKD kvs k = none → valV vs k = none)
  | [], vs, r => by
    simp only [RepKs] at r
    subst r
    exact ⟨fun d e => by simp [getKD] at e, fun _ => rfl⟩
  | (x, y) :: kvs, vs, r => by
    simp only [RepKs] at r
    obtain ⟨u, t, rfl, r1, r2⟩ := r
    have ih := RepKs.get r2
    unfold getKD valV at *
    simp only [List.find?_cons]
    by_cases h : x = k
    · simp only [h, decide_true]
      exact ⟨fun d e => by simp at e; subst e; exact ⟨u, rfl, r1⟩, fun e => by simp at e⟩
    · simp only [h, decide_false]
      exact ih
theorem RepKs.has : ∀ {kvs : List (Key × D)} {vs : List (Key × V)}, RepKs g w H kvs vs → (kvs.any fun kv => decide (kv.1 = k)) = (vs.any fun kv => decide (kv.1 = k))
  | [], vs, r => by simp only [RepKs] at r; subst r; rfl
  | (x, y) :: kvs, vs, r => by
    simp only [RepKs] at r
    obtain ⟨u, t, rfl, r1, r2⟩ := r
    simp [RepKs.has r2]
theorem RepKs.append : ∀ {kvs : List (Key × D)} {vs : List (Key × V)}, RepKs g w H kvs vs → RepV g w H d v → RepKs g w H (kvs ++ [(k, d)]) (vs ++ [(k, v)])
  | [], vs, r, rd => by
    simp only [RepKs] at r; subst r
    simp only [List.nil_append, RepKs]
    exact ⟨v, [], rfl, rd, rfl⟩
  | (x, y) :: kvs, vs, r, rd => by
    simp only [RepKs] at r
    obtain ⟨u, t, rfl, r1, r2⟩ := r
    simp only [List.cons_append, RepKs]
    exact ⟨u, _, rfl, r1, RepKs.append r2 rd⟩
theorem RepKs.mapPut : ∀ {kvs : List (Key × D)} {vs : List (Key × V)}, RepKs g w H kvs vs → RepV g w H d v → RepKs g w H (kvs.map fun kv => if kv.1 = k then (kv.1, d) else kv) (vs.map fun kv => if kv.1 = k then (kv.1, v) else kv)
  | [], vs, r, rd => by simp only [RepKs] at r; subst r; simp [RepKs]
  | (x, y) :: kvs, vs, r, rd => by
    simp only [RepKs] at r
    obtain ⟨u, t, rfl, r1, r2⟩ := r
    simp only [List.map_cons]
    split
    · simp only [RepKs]
      exact ⟨v, _, rfl, rd, RepKs.mapPut r2 rd⟩
    · simp only [RepKs]
      exact ⟨u, _, rfl, r1, RepKs.mapPut r2 rd⟩
theorem RepKs.put {kvs : List (Key × D)} {vs : List (Key × V)} (r : RepKs g w H kvs vs) (rd : RepV g w H d v) : RepKs g w H (putKD kvs k d) (putK vs k v) := by
  unfold putKD putK
  rw [r.has (k := k)]
  split
  · exact r.mapPut rd
  · exact r.append rd
theorem RepKs.length : ∀ {kvs : List (Key × D)} {vs : List (Key × V)}, RepKs g w H kvs vs → kvs.length = vs.length
  | [], vs, r => by simp only [RepKs] at r; subst r; rfl
  | (x, y) :: kvs, vs, r => by
    simp only [RepKs] at r
    obtain ⟨u, t, rfl, r1, r2⟩ := r
    simp [RepKs.length r2]
/-- a new mutable object -/
theorem RepS.newCell {c : Cell} {q : Addr} {o : HO} (s : RepS g w S H) (hq : H q = none) (hc : CellAt g ⟨w.io ++ [q], w.be⟩ (upd H q o) q c) :
    RepS g ⟨w.io ++ [q], w.be⟩ (S ++ [c]) (upd H q o) ∧ Adv w H ⟨w.io ++ [q], w.be⟩ (upd H q o) := by
  have hio : q ∉ w.io := fun z => s.tracked z hq
  have a : Adv w H ⟨w.io ++ [q], w.be⟩ (upd H q o) :=
    ⟨fun p u e _ => by rw [upd_ne (ne_of_none e hq)]; exact e, ⟨[q], rfl, fun z hz => by simp only [List.mem_singleton] at hz; subst hz; exact hq⟩, fun _ h => h, fun _ h => .inl h, fun p b u e => by rw [upd_ne (ne_of_none e hq)]; exact e⟩
  refine ⟨⟨?_, ?_, fun n ce p e1 e2 => ?_, fun p hp => ?_, fun p hp z => ?_⟩, a⟩
  · show (w.io ++ [q]).length = _
    rw [List.length_append, List.length_append, s.len]; rfl
  · refine List.nodup_append.mpr ⟨s.nd, by simp, fun a ha b hb => ?_⟩
    simp only [List.mem_singleton] at hb
    subst hb
    rintro rfl
    exact hio ha
  · have e2 : (w.io ++ [q])[n]? = some p := e2
    by_cases hn : n < S.length
    · rw [List.getElem?_append_left hn] at e1
      rw [List.getElem?_append_left (by rw [s.len]; exact hn)] at e2
      have e3 : w.io[n]? = some p := e2
      have hpm : p ∈ w.io := List.mem_of_getElem? e3
      exact (s.at_ n ce p e1 e3).adv a s (upd_ne fun z => hio (z ▸ hpm))
    · have hn' : n = S.length := by
        have := (List.getElem?_eq_some_iff.mp e1).1
        rw [List.length_append] at this
        simp only [List.length_singleton] at this
        omega
      subst hn'
      rw [List.getElem?_append_right (Nat.le_refl _)] at e1
      rw [List.getElem?_append_right (by rw [s.len]; exact Nat.le_refl _), s.len] at e2
      simp at e1 e2
      subst e1 e2
      exact hc
  · obtain ⟨vs, e⟩ := s.be p hp
    exact ⟨vs, by rw [upd_ne (ne_of_none e hq)]; exact e⟩
  · rcases List.mem_append.mp z with z | z
    · exact s.ne p hp z
    · simp only [List.mem_singleton] at z
      subst z
      obtain ⟨vs, e⟩ := s.be _ hp
      rw [hq] at e; cases e
end
def eDct : EF := fun _ S => some (.loc S.length, S ++ [.dct []])
/-- d[k] -/
def eDGet (fo fk : EF) : EF := fun ρ S => (fo ρ S).bind fun r => (fk ρ r.2).bind fun q => (dctOf q.2 r.1).bind fun z => (keyOfD q.1).bind fun k => (getKD z.2 k).bind fun d => some (d, q.2)
/-- d.setdefault(k, x) -/
def eDSetd (fo fk fx : EF) : EF := fun ρ S => (fo ρ S).bind fun r => (fk ρ r.2).bind fun q => (fx ρ q.2).bind fun x => (dctOf r.2 r.1).bind fun _ => (dctOf x.2 r.1).bind fun z => (keyOfD q.1).bind fun k => if z.2.length < 1000000 then match getKD z.2 k with
    | some d => some (d, x.2)
    | none => some (x.1, x.2.set z.1 (.dct (putKD z.2 k x.1)))
  else none
section
variable {X : Cx} {cl : Str → Option Addr} {o e f : Expr} {fo fk fx : EF} {pos apos cpos : Pos}
theorem d_dct : PD X cl (.Dict [] [] pos) eDct := PE.imp pe_dnewK fun σ H Q h => by
  obtain ⟨w, ρ, S, d, S', hE, hS, hf, k⟩ := h
  cases hf
  intro p hp
  obtain ⟨s2, a2⟩ := hS.newCell (c := .dct []) (o := .dK []) hp ⟨[], upd_same, by simp only [RepKs]⟩
  refine k _ _ _ a2 s2 ?_
  simp only [RepV]
  refine ⟨p, ?_, rfl⟩
  rw [List.getElem?_append_right (by rw [hS.len]; exact Nat.le_refl _), hS.len]
  simp
theorem d_dget (hu : X.A.units + 1 < cLine) (ho : PD X cl o fo) (hi : PD X cl e fk) (hs : NoSl e := by exact fun _ _ => rfl) : PD X cl (.Subscript o e pos) (eDGet fo fk) := PE.imp (pe_dget hu ho hi hs) fun σ H Q h => by
  obtain ⟨w, ρ, S, d, S', hE, hS, hf, k⟩ := h
  obtain ⟨⟨x, S1⟩, h1, hf⟩ := obind hf
  obtain ⟨⟨y, S2⟩, h2, hf⟩ := obind hf
  obtain ⟨⟨n, kvs⟩, h3, hf⟩ := obind hf
  obtain ⟨ky, h4, hf⟩ := obind hf
  obtain ⟨d', h5, hf⟩ := obind hf
  cases hf
  refine ⟨w, ρ, S, x, S1, hE, hS, h1, fun w1 H1 v a1 s1 r1 => ⟨w1, ρ, S1, y, _, hE.adv a1 hS, s1, h2, fun w2 H2 u a2 s2 r2 => ?_⟩⟩
  obtain ⟨p, vs, rfl, hp, q, rs⟩ := (r1.adv a2 s1 _ _).dctOf s2 h3
  have ek := keyOfD_rep r2 h4
  subst ek
  obtain ⟨z, hz, rz⟩ := rs.get.1 _ h5
  exact ⟨p, z, rfl, by rw [← hz]; exact DGet.k q, ((k.from a1 s1).from a2 s2).now s2 rz⟩
theorem d_dsetd (ho : PD X cl o fo) (he : PD X cl e fk) (hf : PD X cl f fx) (m : M2 X o "setdefault" apos e f cpos := by exact ⟨rfl, rfl, rfl, rfl⟩) : PD X cl (.Call (.Attribute o "setdefault" apos) [e, f] [] cpos) (eDSetd fo fk fx) := PE.imp (pe_dsetd ho he hf m) fun σ H Q h => by
  obtain ⟨w, ρ, S, d, S', hE, hS, hf, k⟩ := h
  obtain ⟨⟨x, S1⟩, h1, hf⟩ := obind hf
  obtain ⟨⟨y, S2⟩, h2, hf⟩ := obind hf
  obtain ⟨⟨z, S3⟩, h3, hf⟩ := obind hf
  obtain ⟨⟨n0, kvs0⟩, h4, hf⟩ := obind hf
  obtain ⟨⟨n, kvs⟩, h5, hf⟩ := obind hf
  obtain ⟨ky, h6, hf⟩ := obind hf
  dsimp only at hf
  split at hf
  · rename_i hl
    refine ⟨w, ρ, S, x, S1, hE, hS, h1, fun w1 H1 v a1 s1 r1 => ?_⟩
    obtain ⟨p0, vs0, rfl, hp0, q0, _⟩ := r1.dctOf s1 h4
    refine ⟨p0, rfl, .inl ⟨vs0, .inl q0⟩, w1, ρ, S1, y, S2, hE.adv a1 hS, s1, h2, fun w2 H2 u a2 s2 r2 => ⟨w2, ρ, S2, z, S3, (hE.adv a1 hS).adv a2 s1, s2, h3, fun w3 H3 t a3 s3 r3 => ?_⟩⟩
    obtain ⟨p, vs, ep, hp, q, rs⟩ := ((r1.adv a2 s1 _ _).adv a3 s2 _ _).dctOf s3 h5
    cases ep
    have ek := keyOfD_rep r2 h6
    subst ek
    have k3 := ((k.from a1 s1).from a2 s2).from a3 s3
    refine ⟨vs, ky, q, rfl, by rw [← rs.length]; exact Nat.lt_of_lt_of_le hl million, fun c hc => ?_, fun hc => ?_⟩
    · cases hg : getKD kvs ky with
      | some d' =>
        rw [hg] at hf
        cases hf
        obtain ⟨c', hc', rc⟩ := rs.get.1 _ hg
        rw [hc] at hc'; cases hc'
        exact k3.now s3 rc
      | none => rw [rs.get.2 hg] at hc; cases hc
    · cases hg : getKD kvs ky with
      | some d' =>
        obtain ⟨c', hc', rc⟩ := rs.get.1 _ hg
        rw [hc] at hc'; cases hc'
      | none =>
        rw [hg] at hf
        cases hf
        have aw : Adv w3 H3 w3 (upd H3 p0 (.dK (putK vs ky t))) := Adv.write hp (nfK q)
        exact k3 w3 _ _ aw (s3.write hp (nfK q) ⟨_, upd_same, RepKs.adv aw s3 _ _ (rs.put r3)⟩) (r3.adv aw s3 _ _)
  · cases hf
end
end DZ

/-! DzK: enumerate of lists and tuples, zip, the values of a dict walked. -/
namespace DZ
open PySem PySem.Spec PyProof.Rows L2
open Classical

theorem enumT_new (l : Addr) (items : Array Value) (n : Nat) (dct : Option Addr) (sl : Array (Option Value)) :
    Meets (Builtin.«enumerate.__new__» ⟨[.type "enumerate", .ref l], []⟩) (fun _ R s => s.heap.get? l = some { cls := .type "tuple", dict := dct, data := .seq items n, slots := sl } ∧
      R (.ok (.ret (.ref (s.heap.push { cls := .type "tuple_iterator", data := .fields #[.ref l, .int 0 0] }).objs.size)))
        { s with heap := (s.heap.push { cls := .type "tuple_iterator", data := .fields #[.ref l, .int 0 0] }).push { cls := .type "enumerate", data := .fields #[.none, .bool false, .ref s.heap.objs.size, rawInt 0, .none, .none] } }) :=
  .of_wp fun prog w A R s h => by
    obtain ⟨hp, g, d, tk, os⟩ := s; obtain ⟨hl, h⟩ := h
    have hsub := sub_enumerate
    have hT : Heap.IsTuple (Shared.heap ⟨hp, g, d, tk, os⟩) l items := ⟨_, hl, rfl, n, rfl⟩
    wp_walk using AutoSeq1.wpAny_loadPart' hl
    refine wpAny_stack_any fun st => wpAny_pure ?_
    split
    · rename_i c _ _ _ _ _
      cases (c == Value.type "enumerate")
      · wp_walk using AutoSeq1.wpAny_loadPart' hl, wpAny_pyIter_tuple hT
        exact ⟨_, rfl, h⟩
      · wp_walk using AutoSeq1.wpAny_loadPart' hl, wpAny_pyIter_tuple hT
        exact ⟨_, rfl, h⟩
    · wp_walk using AutoSeq1.wpAny_loadPart' hl, wpAny_pyIter_tuple hT
      exact ⟨_, rfl, h⟩
theorem call_enumT {prog : Program} {w : World} {A : Around} {E : Value → Shared → Prop} {s : Shared} {l : Addr} {items : Array Value} {Q : Value → Shared → Prop} (hL : s.heap.IsTuple l items)
    (h : ∀ h', IsEnum h' (s.heap.objs.size + 1) s.heap.objs.size 0 .none → h'.IsTupleIter s.heap.objs.size l 0 → h'.objs.size = s.heap.objs.size + 2 →
      (∀ b o, s.heap.get? b = some o → h'.get? b = some o) → Q (.ref (s.heap.objs.size + 1)) { s with heap := h' }) : wpAny (model prog w) A (call (.type "enumerate") [.ref l]) Q E s := by
  obtain ⟨⟨c, dct, dt, sl⟩, hl, hc, n, hd⟩ := hL
  replace hc : c = .type "tuple" := hc
  replace hd : dt = .seq items n := hd
  subst hc hd
  refine callType_new F.called_enumerate (by decide) (F.typeCall_enumerate_1 _) (F.newCall_enumerate_1 _) (fun obj => F.args_object_init_2 obj _) F.entry_enumerate_new (enumT_new l items n dct sl) ⟨hl, ?_⟩
  have hz : (s.heap.push { cls := .type "tuple_iterator", data := .fields #[.ref l, .int 0 0] }).objs.size = s.heap.objs.size + 1 := Heap.size_push ..
  show _ ∧ _
  rw [hz]
  have he : IsEnum ((s.heap.push { cls := .type "tuple_iterator", data := .fields #[.ref l, .int 0 0] }).push { cls := .type "enumerate", data := .fields #[.none, .bool false, .ref s.heap.objs.size, rawInt 0, .none, .none] }) (s.heap.objs.size + 1) s.heap.objs.size 0 .none := by
    have := Heap.get?_push_size (s.heap.push { cls := .type "tuple_iterator", data := .fields #[.ref l, .int 0 0] }) (o := { cls := .type "enumerate", data := .fields #[.none, .bool false, .ref s.heap.objs.size, rawInt 0, .none, .none] }) rfl
    rw [hz] at this; exact this
  exact ⟨⟨_, he, rfl⟩, h _ he ⟨_, Heap.get?_push_of_some _ (Heap.get?_push_size _ rfl), rfl, rfl⟩ (by rw [Heap.size_push, hz]) fun b o x => Heap.get?_push_of_some _ (Heap.get?_push_of_some _ x)⟩

/-- the tuple at a, each item in a new pair -/
def IteT (K : PySem.W.Frag) (a : Addr) : It :=
  ⟨fun i H => ∃ (xs : List V) (x : V), SqT K H a xs ∧ xs[i]? = some x, fun i H v H' => ∃ T x, v = .ref T ∧ H T = none ∧ H' = upd H T (.tup [.int (i : Nat), x]) ∧ ∀ xs, SqT K H a xs → xs[i]? = some x, fun i H => ∃ xs : List V, SqT K H a xs ∧ xs.length = i⟩
theorem turn_enumT {P : Program} {w : World} {K : PySem.W.Frag} {elts : List Expr} {kk : Nat} {tpos : Pos} (a e it : Addr) (hai : a ≠ it) (hea : e ≠ a) :
    Turn P w K (.Tuple elts kk tpos) (IteT K a) [e, it] e (fun i h => (∃ old, IsEnum h e it ((i : Nat) : Int) old) ∧ h.IsTupleIter it a i ∧ e ≠ it) where
  mem := by simp
  obj := fun i h st b hb => by
    obtain ⟨⟨old, he⟩, ⟨o, ho, hc, hd⟩, _⟩ := st
    have e' : b = e ∨ b = it := by simpa using hb
    rcases e' with z | z
    · rw [z]; exact ⟨_, he, fun v q => nomatch q⟩
    · rw [z]; exact ⟨o, ho, fun v q => by rw [hd] at q; cases q⟩
  keep := fun i h h' st k => let ⟨⟨old, he⟩, hi, hne⟩ := st; ⟨⟨old, k e (by simp) _ he⟩, hi.at fun o q => k it (by simp) o q, hne⟩
  item := by
    intro X hP hw hK hc i pins s σ H E I hf st hg
    subst hP hw hK
    obtain ⟨⟨old, he⟩, hit, hne⟩ := st
    obtain ⟨xs, x, hq, hx⟩ := hg
    obtain ⟨its, rv, p, hz⟩ := I.tuple hq
    obtain ⟨u, hu, ru⟩ := rv.get hx
    have hel : e < s.heap.objs.size := Heap.lt_size he
    have hil : it < s.heap.objs.size := by obtain ⟨_, q, _⟩ := hit; exact Heap.lt_size q
    have hlt : i < its.toArray.size := by
      have := (List.getElem?_eq_some_iff.mp hu).1
      simpa using this
    refine wpAny_pyNext_enum_itemD (Draws.tuple (show X.A.in1.handled = none from I.ok.hd hc) it a hai its.toArray) he ⟨hit, p⟩ hlt hne (by simp [hne, hea]) fun x' h' tk hP ho hit' hT hsz hk => ?_
    have ex : x' = u := by
      have h2 : its[i]? = some x' := by simpa using hP
      rw [hu] at h2; exact (Option.some.inj h2).symm
    subst ex
    refine ⟨_, rfl, wpAny_letOwnedTupleGo_enum (s := { s with heap := h', toks := tk + 1 }) ho fun h'' he' sb => ?_⟩
    have hT2 : h''.get? s.heap.objs.size = some { cls := .type "tuple", data := .seq #[.int i tk, x'] } := (sb.2 _ (Nat.ne_of_gt hel)).trans hT
    have new : ObjOk X.prog X.w (upd H s.heap.objs.size (.tup [.int (i : Nat), x])) h'' s.heap.objs.size (.tup [.int (i : Nat), x]) :=
      ⟨by show 2 ≤ sizeLine; decide, [.int i tk, x'], .cons ⟨_, rfl⟩ (.cons ru .nil), ⟨_, hT2, rfl, _, rfl⟩⟩
    have I1 : Inv X pins σ (upd H s.heap.objs.size (.tup [.int (i : Nat), x])) { s with heap := h'', toks := tk + 1 } :=
      I.turnedNew (ch := [e, it]) (fun b ob hb q => (sb.2 b (fun z => hb (by simp [z]))).trans (hk b ob (fun z => hb (by simp [z])) (fun z => hb (by simp [z])) q)) hf (Nat.le_refl _) new
    refine ⟨.ref s.heap.objs.size, _, I1, rfl, ⟨_, x, rfl, I.hok.fresh (Nat.le_refl _), rfl, fun ys hy => by rw [I.tuple_inj hy hq]; exact hx⟩, ⟨⟨x', ?_⟩, hit'.1.at fun o q => (sb.2 it (Ne.symm hne)).trans q, hne⟩, fun b hb => ?_⟩
    · have e1 : ((i + 1 : Nat) : Int) = (i : Int) + 1 := by omega
      rw [e1]; exact he'
    · have hb' : b < s.heap.objs.size := by
        have e' : b = e ∨ b = it := by simpa using hb
        rcases e' with z | z
        · rw [z]; exact hel
        · rw [z]; exact hil
      rw [upd_ne (Nat.ne_of_lt hb')]
      exact (hf b hb).1
  done := by
    intro X hP hw hK hc i pins s σ H E I hf st hg
    subst hP hw hK
    obtain ⟨⟨old, he⟩, hit, hne⟩ := st
    obtain ⟨xs, hq, hx⟩ := hg
    obtain ⟨its, rv, p, hz⟩ := I.tuple hq
    obtain ⟨f0, f1, f2, f3, f4, f5⟩ := hf it (by simp)
    have hl := rv.length
    have hi : its.toArray.size = i := by rw [List.size_toArray, ← hl]; exact hx
    refine wpAny_pyNext_enum_endD (Draws.tuple (show X.A.in1.handled = none from I.ok.hd hc) it a hai its.toArray) he (by rw [hi]; exact ⟨hit, p⟩) fun h' eb => ⟨rfl, I.turned (t' := s.toks) (fun b o hb q => eb b o hb q) f0 f1 f3 f4 f5⟩
  self := fun A i s Q E st h => let ⟨⟨_, he⟩, _⟩ := st; wpAny_pyIter_enum he h
def iEnumT (K : PySem.W.Frag) (ta : TA) : TI := fun σ H R => ta σ H fun vs H1 => ∃ a xs, vs = [.ref a] ∧ SqT K H1 a xs ∧ R (IteT K a) H1
theorem pi_enumT {X : Cx} {e : Expr} {ta : TA} {p pos tpos : Pos} {elts : List Expr} {kk : Nat} (hg : Gl X "enumerate") (hm : X.mg "enumerate" = none) (ha : PA X [e] ta) (hs : starEach [e] X.env = [(false, eval e X.env)] := by rfl) :
    PI X (.Tuple elts kk tpos) (.Call (.Name "enumerate" p) [e] [] pos) (iEnumT X.K ta) := by
  refine ⟨fun pins s σ H R I h => ?_⟩
  refine Call_ (ld_blt I hg hm boot_enumerate (PyProof.Rows.callWith_type1 (thn (ha.run pos pins s σ H _ I h) fun us s1 ⟨vs, H1, I1, r1, q1⟩ => ?_) hs rfl))
  obtain ⟨a, xs, ex, hq, q⟩ := q1
  subst ex
  cases r1 with
  | cons r rr =>
    cases rr
    cases r
    obtain ⟨its, rv, p', hz⟩ := I1.tuple hq
    have hal : a < s1.heap.objs.size := by obtain ⟨_, z, _⟩ := p'; exact Heap.lt_size z
    refine call_enumT p' fun h' he hit hsz hk => wpAny_pyIter_enum he ?_
    have I2 : Inv X pins σ H1 { s1 with heap := h' } := I1.kept (t' := s1.toks) hk
    refine ⟨s1.heap.objs.size + 1, [s1.heap.objs.size + 1, s1.heap.objs.size], _, _, H1, rfl, I2, turn_enumT a (s1.heap.objs.size + 1) s1.heap.objs.size (Nat.ne_of_lt hal) (Nat.ne_of_gt (Nat.lt_succ_of_lt hal)), ⟨⟨.none, he⟩, hit, Nat.succ_ne_self _⟩, fun b hb => ?_, q⟩
    have e' : b = s1.heap.objs.size + 1 ∨ b = s1.heap.objs.size := by simpa using hb
    have hle : s1.heap.objs.size ≤ b := by
      rcases e' with z | z
      · rw [z]; exact Nat.le_add_right _ _
      · rw [z]; exact Nat.le_refl _
    exact I1.fpOk hle (I1.hok.fresh hle)

/-! ### enumerate over data -/
def enumD (i : Nat) : List D → List D
  | [] => []
  | d :: ds => .tup [.int (i : Nat), d] :: enumD (i + 1) ds
theorem enumD_length : ∀ (ds : List D) (i : Nat), (enumD i ds).length = ds.length
  | [], _ => rfl
  | d :: ds, i => by simp [enumD, enumD_length ds (i + 1)]
theorem enumD_get : ∀ (ds : List D) (i j : Nat) (d : D), ds[j]? = some d → (enumD i ds)[j]? = some (.tup [.int ((i + j : Nat) : Int), d])
  | [], _, _, _, h => by simp at h
  | x :: ds, i, 0, d, h => by simp at h; subst h; rfl
  | x :: ds, i, j + 1, d, h => by
    have := enumD_get ds (i + 1) j d (by simpa using h)
    rw [show enumD i (x :: ds) = .tup [.int (i : Nat), x] :: enumD (i + 1) ds from rfl, List.getElem?_cons_succ, this]
    congr 4
    omega
def iEnumD (fa : EF) : IF := fun ρ S => (fa ρ S).bind fun r => (srcOf r.2 r.1).bind fun s => some (⟨enumD 0 s.items, s.locks⟩, r.2)
section
variable {g : Gx} {w : Wo} {H : Hp} {S : Store}
/-- a new pair -/
theorem pair_at {w1 : Wo} {S1 : Store} {H1 : Hp} {T : Addr} {a b : D} {x y : V} (s1 : RepS g w1 S1 H1) (hT : H1 T = none) (ra : RepV g w1 H1 a x) (rb : RepV g w1 H1 b y) :
    Adv w1 H1 w1 (upd H1 T (.tup [x, y])) ∧ RepS g w1 S1 (upd H1 T (.tup [x, y])) ∧ RepV g w1 (upd H1 T (.tup [x, y])) (.tup [a, b]) (.ref T) := by
  refine ⟨Adv.laid hT, s1.laid hT, RepV.newT s1 hT ?_⟩
  simp only [RepVs]
  exact ⟨x, [y], rfl, ra, y, [], rfl, rb, rfl⟩
theorem enum_at {n : Nat} {xs : List D} {vs : List V} {J : It} {G : Hp → Prop} {w1 : Wo} {S1 : Store} {H1 : Hp} (W : Walk J n G (YPair (fun i => some (.int (i : Nat))) (fun i => vs[i]?))) (hn : n = xs.length) (q : G H1) (s1 : RepS g w1 S1 H1) (r : RepVs g w1 H1 xs vs) :
    (∀ i, i < (enumD 0 xs).length → J.go i H1 ∧ ∀ x H', J.yld i H1 x H' → ∃ d, (enumD 0 xs)[i]? = some d ∧ Adv w1 H1 w1 H' ∧ RepS g w1 S1 H' ∧ RepV g w1 H' d x) ∧ J.stop (enumD 0 xs).length H1 := by
  subst hn
  rw [enumD_length]
  refine ⟨fun i hi => ⟨W.goes i H1 hi q, fun v H' y => ?_⟩, W.stops H1 q⟩
  obtain ⟨T, x, z, rfl, hT, rfl, e1, e2⟩ := W.yields i H1 v H' hi q y
  cases e1
  have hx : xs[i]? = some xs[i] := by simp [hi]
  obtain ⟨u, e3, ru⟩ := r.get hx
  rw [show vs[i]? = some z from e2] at e3; cases e3
  obtain ⟨h1, h2, h3⟩ := pair_at (a := .int ((i : Nat) : Int)) (x := .int ((i : Nat) : Int)) s1 hT (by simp [RepV]) ru
  refine ⟨_, enumD_get xs 0 i _ hx, h1, h2, ?_⟩
  rw [Nat.zero_add]
  exact h3
theorem walk_enumT {K : PySem.W.Frag} {a : Addr} {xs : List V} : Walk (IteT K a) xs.length (fun H => SqT K H a xs) (YPair (fun i => some (.int (i : Nat))) (fun i => xs[i]?)) := by
  refine ⟨fun i _ hi q => ⟨xs, xs[i], q, by simp [hi]⟩, fun _ q => ⟨xs, q, rfl⟩, fun i H v H' _ q y => ?_⟩
  obtain ⟨T, x, h1, h2, h3, h4⟩ := y
  exact ⟨T, .int (i : Nat), x, h1, h2, h3, rfl, h4 xs q⟩
theorem enumOf_tup {xs : List D} {v : V} (s : RepS g w S H) (r : RepV g w H (.tup xs) v) : ∃ p vs, v = .ref p ∧ SqT g.K H p vs ∧ SimIt g (IteT g.K p) ⟨enumD 0 xs, []⟩ w H := by
  obtain ⟨p, vs, rfl, q, rs⟩ := r.tupOf rfl
  exact ⟨p, vs, rfl, q, fun w1 S1 H1 a1 s1 _ => enum_at walk_enumT rs.length.symm (a1.sqT s q) s1 (RepVs.adv a1 s _ _ rs)⟩
theorem enumOf_list {d : D} {v : V} {src : Src} (s : RepS g w S H) (r : RepV g w H d v) (e : srcOf S d = some src) (hd : ∀ xs, d ≠ .tup xs) : ∃ p vs, v = .ref p ∧ SqL g.K H p vs ∧ SimIt g (Ite g.K p) ⟨enumD 0 src.items, src.locks⟩ w H := by
  cases d with
  | tup xs => exact absurd rfl (hd xs)
  | lst xs =>
    cases e
    simp only [RepV] at r
    obtain ⟨p, vs, rfl, q, n, rs⟩ := r
    exact ⟨p, vs, rfl, SqL.of q, fun w1 S1 H1 a1 s1 _ => enum_at walk_enum rs.length.symm (SqL.of (a1.ext p _ q n.1)) s1 (RepVs.adv a1 s _ _ rs)⟩
  | scr ns =>
    cases e
    simp only [RepV] at r
    obtain ⟨p, rfl, q⟩ := r
    refine ⟨p, ns.map V.int, rfl, ?_, fun w1 S1 H1 a1 s1 _ => enum_at walk_enum (by simp) ?_ s1 (RepVs.of_ints ns)⟩
    · rcases q with ⟨q, _⟩ | q
      · exact .inl q
      · exact q H
    · rcases q with ⟨q, n⟩ | q
      · exact .inl (a1.rd s n.1 q)
      · exact q H1
  | loc n =>
    obtain ⟨p, hp, rfl⟩ := (show ∃ p, w.io[n]? = some p ∧ v = .ref p by simpa [RepV] using r)
    obtain ⟨c, hc, hcell⟩ := s.cell hp
    unfold srcOf at e
    simp only [hc] at e
    cases c with
    | lst xs =>
      cases e
      obtain ⟨vs, q, rs⟩ := hcell
      refine ⟨p, vs, rfl, SqL.of q, fun w1 S1 H1 a1 s1 ok => ?_⟩
      have hc1 := ok (n, .lst xs) List.mem_cons_self
      obtain ⟨us, q1, r1⟩ := s1.at_ n _ p hc1 (a1.io hp)
      exact enum_at walk_enum r1.length.symm (SqL.of q1) s1 r1
    | _ => cases e
  | _ => cases e
end
section
variable {X : Cx} {cl : Str → Option Addr} {e : Expr} {fa : EF} {p pos tpos : Pos} {elts : List Expr} {kk : Nat}
theorem i_enum (hm : X.mg "enumerate" = none) (ha : PD X cl e fa) (hg : Gl X "enumerate" := by rfl) (hs : starEach [e] X.env = [(false, eval e X.env)] := by rfl) :
    ID X cl (.Tuple elts kk tpos) (.Call (.Name "enumerate" p) [e] [] pos) (iEnumD fa) := PI.imp (PI.or (pi_enumT hg hm (pa_cons ha pa_nil hs) hs) (pi_enum hg hm (pa_cons ha pa_nil hs) hs)) fun σ H R hh => by
  obtain ⟨w, ρ, S, src, S', hE, hS, hf, k⟩ := hh
  obtain ⟨⟨x, S1⟩, h1, hf⟩ := obind hf
  obtain ⟨sr, h2, hf⟩ := obind hf
  cases hf
  by_cases hd : ∃ xs, x = .tup xs
  · obtain ⟨xs, rfl⟩ := hd
    cases h2
    refine .inl ⟨w, ρ, S, _, S1, hE, hS, h1, fun w1 H1 v a1 s1 r1 => ?_⟩
    obtain ⟨p, vs, rfl, q, sim⟩ := enumOf_tup s1 r1
    exact ⟨p, vs, rfl, q, k w1 H1 _ a1 s1 sim⟩
  · refine .inr ⟨w, ρ, S, x, S1, hE, hS, h1, fun w1 H1 v a1 s1 r1 => ?_⟩
    obtain ⟨p, vs, rfl, q, sim⟩ := enumOf_list s1 r1 h2 fun xs e => hd ⟨xs, e⟩
    exact ⟨p, vs, rfl, q, k w1 H1 _ a1 s1 sim⟩
end

/-! ### a locked dict is let loose -/
section
variable {g : Gx} {w : Wo} {H : Hp} {p D : Addr} {o : HO} {ob : Obj} {us : List (Key × V)}
theorem sqT_updI {vs : List V} (hD : H D = some (.frz ob (.dK us))) (q : SqT g.K H p vs) : SqT g.K (upd H D o) p vs := by
  rcases q with (q | ⟨b, q⟩) | q
  · exact .inl (.inl (by rw [upd_ne (by rintro rfl; rw [hD] at q; cases q)]; exact q))
  · exact .inl (.inr ⟨b, by rw [upd_ne (by rintro rfl; rw [hD] at q; cases q)]; exact q⟩)
  · exact .inr q
theorem io_ne (hb : D ∈ w.io) (n : w.no p) : p ≠ D := by
  rintro rfl
  exact n.1 hb
mutual
theorem RepV.updI (hb : D ∈ w.io) (hD : H D = some (.frz ob (.dK us))) : ∀ (d : DZ.D) (v : V), RepV g w H d v → RepV g w (upd H D o) d v
  | .non, _, r => by simpa [RepV] using r
  | .bl _, _, r => by simpa [RepV] using r
  | .int _, _, r => by simpa [RepV] using r
  | .str _, _, r => by simpa [RepV] using r
  | .tup xs, v, r => by
    simp only [RepV] at r ⊢
    obtain ⟨p, vs, e, q, rs⟩ := r
    exact ⟨p, vs, e, sqT_updI hD q, RepVs.updI hb hD xs vs rs⟩
  | .lst xs, v, r => by
    simp only [RepV] at r ⊢
    obtain ⟨p, vs, e, q, n, rs⟩ := r
    exact ⟨p, vs, e, by rw [upd_ne (io_ne hb n)]; exact q, n, RepVs.updI hb hD xs vs rs⟩
  | .scr ns, v, r => by
    simp only [RepV] at r ⊢
    obtain ⟨p, e, q⟩ := r
    refine ⟨p, e, ?_⟩
    rcases q with ⟨q, n⟩ | q
    · refine .inl ⟨?_, n⟩
      rcases q with q | ⟨b, q⟩
      · exact .inl (by rw [upd_ne (io_ne hb n)]; exact q)
      · exact .inr ⟨b, by rw [upd_ne (io_ne hb n)]; exact q⟩
    · exact .inr q
  | .obj c fs, v, r => by
    simp only [RepV] at r ⊢
    obtain ⟨p, C, dx, vs, e, hc, q, n, rs⟩ := r
    exact ⟨p, C, dx, vs, e, hc, by rw [upd_ne (io_ne hb n)]; exact q, n, RepFs.updI hb hD fs vs rs⟩
  | .loc n, v, r => by
    simp only [RepV] at r ⊢
    exact r
theorem RepVs.updI (hb : D ∈ w.io) (hD : H D = some (.frz ob (.dK us))) : ∀ (ds : List DZ.D) (vs : List V), RepVs g w H ds vs → RepVs g w (upd H D o) ds vs
  | [], _, r => by simpa [RepVs] using r
  | d :: ds, vs, r => by
    simp only [RepVs] at r ⊢
    obtain ⟨v, t, e, r1, r2⟩ := r
    exact ⟨v, t, e, RepV.updI hb hD d v r1, RepVs.updI hb hD ds t r2⟩
theorem RepFs.updI (hb : D ∈ w.io) (hD : H D = some (.frz ob (.dK us))) : ∀ (ds : List (Str × DZ.D)) (vs : List (Str × V)), RepFs g w H ds vs → RepFs g w (upd H D o) ds vs
  | [], _, r => by simpa [RepFs] using r
  | (x, d) :: ds, vs, r => by
    simp only [RepFs] at r ⊢
    obtain ⟨v, t, e, r1, r2⟩ := r
    exact ⟨v, t, e, RepV.updI hb hD d v r1, RepFs.updI hb hD ds t r2⟩
end
theorem RepKs.updI (hb : D ∈ w.io) (hD : H D = some (.frz ob (.dK us))) : ∀ (ds : List (Key × DZ.D)) (vs : List (Key × V)), RepKs g w H ds vs → RepKs g w (upd H D o) ds vs
  | [], _, r => by simpa [RepKs] using r
  | (x, d) :: ds, vs, r => by
    simp only [RepKs] at r ⊢
    obtain ⟨v, t, e, r1, r2⟩ := r
    exact ⟨v, t, e, RepV.updI hb hD d v r1, RepKs.updI hb hD ds t r2⟩
end
/-! ### the values of a dict walked: e.values() within a locked expression -/
/-- the dict at o is locked while f is reckoned -/
def eLock (fo : EF) (f : EF) : EF := fun ρ S => (fo ρ S).bind fun r => (dctOf r.2 r.1).bind fun z => (f ρ (r.2.set z.1 (.lck z.2))).bind fun q => match q.2[z.1]? with
  | some (.lck kvs) => some (q.1, q.2.set z.1 (.dct kvs))
  | _ => none
def lckOf (S : Store) (d : D) : Option (Nat × List (Key × D)) := match d with
  | .loc n => match S[n]? with
    | some (.lck kvs) => some (n, kvs)
    | _ => none
  | _ => none
theorem RepV.lckOf {g : Gx} {w : Wo} {H : Hp} {S : Store} {d : D} {v : V} {n : Nat} {kvs : List (Key × D)} (s : RepS g w S H) (r : RepV g w H d v) (e : lckOf S d = some (n, kvs)) : ∃ p o vs, v = .ref p ∧ w.io[n]? = some p ∧ H p = some (.frz o (.dK vs)) ∧ RepKs g w H kvs vs := by
  unfold DZ.lckOf at e
  split at e
  · rename_i m
    split at e
    · rename_i ys hm
      cases e
      simp only [RepV] at r
      obtain ⟨p, hp, rfl⟩ := r
      obtain ⟨o, vs, q, rs⟩ := s.at_ n _ p hm hp
      exact ⟨p, o, vs, rfl, hp, q, rs⟩
    · cases e
  · cases e
/-- e.values(), the dict being locked -/
def iVal (fo : EF) : IF := fun ρ S => (fo ρ S).bind fun r => (lckOf r.2 r.1).bind fun z => some (⟨z.2.map (·.2), [(z.1, .lck z.2)]⟩, r.2)
theorem RepKs.vals {g : Gx} {w : Wo} {H : Hp} : ∀ {kvs : List (Key × D)} {vs : List (Key × V)}, RepKs g w H kvs vs → RepVs g w H (kvs.map (·.2)) (vs.map (·.2))
  | [], vs, r => by simp only [RepKs] at r; subst r; simp [RepVs]
  | (x, y) :: kvs, vs, r => by
    simp only [RepKs] at r
    obtain ⟨u, t, rfl, r1, r2⟩ := r
    simp only [List.map_cons, RepVs]
    exact ⟨u, _, rfl, r1, RepKs.vals r2⟩
section
variable {X : Cx} {cl : Str → Option Addr} {tg e : Expr} {fo f : EF} {apos cpos : Pos}
theorem i_val (he : PD X cl e fo) (hbase : attributeBase e "values" X.env (eval e X.env) = eval e X.env := by rfl) (hline : (apos.endLine == cpos.line) = true := by rfl) :
    ID X cl tg (.Call (.Attribute e "values" apos) [] [] cpos) (iVal fo) := PI.imp (pi_values he hbase hline) fun σ H R hh => by
  obtain ⟨w, ρ, S, src, S', hE, hS, hf, k⟩ := hh
  obtain ⟨⟨x, S1⟩, h1, hf⟩ := obind hf
  obtain ⟨⟨n, kvs⟩, h2, hf⟩ := obind hf
  cases hf
  refine ⟨w, ρ, S, x, _, hE, hS, h1, fun w1 H1 v a1 s1 r1 => ?_⟩
  obtain ⟨p, o, vs, rfl, hp, q, rs⟩ := r1.lckOf s1 h2
  refine ⟨p, o, vs, rfl, q, k w1 H1 _ a1 s1 fun w2 S2 H2 a2 s2 ok => ?_⟩
  have hc2 := ok (n, .lck kvs) List.mem_cons_self
  obtain ⟨o2, vs2, q2, rs2⟩ := s2.at_ n _ p hc2 (a2.io hp)
  have q3 := a2.fr p o _ q
  rw [q2] at q3
  cases q3
  have W := walk_values (d := p) (o := o) (kvs := vs)
  have hl : vs.length = (kvs.map (·.2)).length := by rw [List.length_map, rs2.length]
  show (∀ i, i < (kvs.map (·.2)).length → _) ∧ (Itd p o vs).stop (kvs.map (·.2)).length H2
  rw [← hl]
  refine ⟨fun i hi => ⟨W.goes i H2 hi q2, fun x H' y => ?_⟩, W.stops H2 q2⟩
  obtain ⟨e1, kk, e2⟩ := W.yields i H2 x H' hi q2 y
  subst e1
  have rv := rs2.vals
  have hx : (vs.map (·.2))[i]? = some x := by rw [List.getElem?_map, e2]; rfl
  obtain ⟨z, hz, rz⟩ := rv.get' hx
  exact ⟨z, hz, .refl, s2, rz⟩
theorem d_lock (i : Nat) (h : PD X cl e f) : PD X cl e (eLock (eVar i) f) := PE.imp (pe_lock h) fun σ H Q hh => by
  obtain ⟨w, ρ, S, d, S', hE, hS, hf, k⟩ := hh
  obtain ⟨⟨x, S1⟩, h1, hfa⟩ := obind hf
  clear hf
  obtain ⟨⟨n, kvs⟩, h2, hfb⟩ := obind hfa
  clear hfa
  obtain ⟨⟨y, S2⟩, h3, hfc⟩ := obind hfb
  clear hfb
  unfold eVar at h1
  split at h1
  · rename_i d' hd'
    cases h1
    obtain ⟨v, e1, rv⟩ := hE.at_ i x hd'
    obtain ⟨p, vs, rfl, hp, q, rs⟩ := rv.dctOf hS h2
    refine ⟨p, .dK vs, q, trivial, fun od => ?_⟩
    have aw : Adv w H w (upd H p (.frz od (.dK vs))) := Adv.write hp (nfK q)
    have sw := hS.write (c := .lck kvs) hp (nfK q) ⟨od, vs, upd_same, RepKs.adv aw hS _ _ rs⟩
    refine ⟨w, ρ, _, y, S2, hE.adv aw hS, sw, h3, fun w2 H2 u a2 s2 r2 => ?_⟩
    have q2 : H2 p = some (.frz od (.dK vs)) := a2.fr p od _ upd_same
    refine ⟨q2, ?_⟩
    dsimp only at hfc
    split at hfc
    · rename_i kvs2 hn2
      cases hfc
      obtain ⟨o2, vs2, q3, rs2⟩ := s2.at_ n _ p hn2 (a2.io hp)
      rw [q2] at q3
      cases q3
      -- the dict is let loose
      have hp2 := a2.io hp
      have hm := List.mem_of_getElem? hp2
      have hne : ∀ q', q' ≠ p → (upd H2 p (.dK vs)) q' = H2 q' := fun q' z => upd_ne z
      refine k w2 _ u ⟨fun r b e1 e2 => ?_, a2.pre.imp fun l hl => ⟨hl.1, fun q' hq' => ?_⟩, a2.be1, fun q' hq' => ?_, fun r b c e1 => ?_⟩ ⟨by rw [List.length_set]; exact s2.len, s2.nd, fun m ce r e1 e2 => ?_, fun q' hq' => ?_, s2.ne⟩ (RepV.updI hm q2 _ _ r2)
      · have : r ≠ p := fun z => e2 (z ▸ List.mem_of_getElem? hp)
        rw [hne r this]
        exact a2.ext r b (by rw [upd_ne this]; exact e1) e2
      · have z := hl.2 q' hq'
        by_cases e : q' = p
        · subst e; rw [upd_same] at z; cases z
        · rw [upd_ne e] at z; exact z
      · rcases a2.be2 q' hq' with z | z
        · exact .inl z
        · by_cases e : q' = p
          · subst e; rw [upd_same] at z; cases z
          · rw [upd_ne e] at z; exact .inr z
      · have : r ≠ p := fun z => by rw [z, q] at e1; cases e1
        rw [hne r this]
        exact a2.fr r b c (by rw [upd_ne this]; exact e1)
      · by_cases h : m = n
        · subst h
          rw [hp2] at e2; cases e2
          have hm' : m < S2.length := (List.getElem?_eq_some_iff.mp hn2).1
          rw [List.getElem?_set_self hm'] at e1
          cases e1
          exact ⟨vs, upd_same, RepKs.updI hm q2 _ _ rs2⟩
        · rw [List.getElem?_set_ne (Ne.symm h)] at e1
          have hr : r ≠ p := by
            intro z
            subst z
            obtain ⟨h1, f1⟩ := List.getElem?_eq_some_iff.mp hp2
            obtain ⟨h2, f2⟩ := List.getElem?_eq_some_iff.mp e2
            exact h ((List.getElem_inj s2.nd).mp (f2.trans f1.symm))
          have z := s2.at_ m ce r e1 e2
          cases ce with
          | lst xs => obtain ⟨us, q', rs'⟩ := z; exact ⟨us, by rw [hne r hr]; exact q', RepVs.updI hm q2 _ _ rs'⟩
          | dct xs => obtain ⟨us, q', rs'⟩ := z; exact ⟨us, by rw [hne r hr]; exact q', RepKs.updI hm q2 _ _ rs'⟩
          | ins c fs => obtain ⟨C, dx, us, hc, q', rs'⟩ := z; exact ⟨C, dx, us, hc, by rw [hne r hr]; exact q', RepFs.updI hm q2 _ _ rs'⟩
          | lck xs => obtain ⟨o', us, q', rs'⟩ := z; exact ⟨o', us, by rw [hne r hr]; exact q', RepKs.updI hm q2 _ _ rs'⟩
      · rw [hne q' (fun z => s2.ne q' hq' (z ▸ hm))]
        exact s2.be q' hq'
    · cases hfc
  · cases h1
end
end DZ

/-! DzL: set(l) of a list of ints, sorted of it. -/
namespace DZ
open PySem PySem.Spec PyProof.Rows L2
open Classical
set_option maxHeartbeats 3200000 in
/-- a set made of a list of ints, as L2.call_set_tupI does it of a tuple -/
theorem set_of_list {P : Program} {w : World} {A : Around} {E : Value → Shared → Prop} {s : Shared} {l : Addr} {items : Array Value} (ns : List Int) {Q : Value → Shared → Prop} (hh : A.handled = none) (hl : s.heap.IsList l items) (hit : IntsAre items.toList ns)
    (hb : ns.length + 1 < scanBound) (h : ∀ (h' : Heap) (tk c : Nat), SetR w h' s.heap.objs.size (fun j => decide (j ∈ ns)) c → c ≤ ns.length → (∀ b o, s.heap.get? b = some o → h'.get? b = some o) → Q (.ref s.heap.objs.size) { s with heap := h', toks := tk }) :
    wpAny (model P w) A (call (.type "set") [.ref l]) Q E s := by
  have size : items.size = ns.length := by simpa using IntsAre.length hit
  generalize hfresh : ({ cls := .type "set", dict := none, data := .set #[] 0 (.fresh 0 0 (!w.params.followText "set-order")) } : Obj) = fresh
  have h1 := F.called_set.notType
  have h2 := F.called_set.canCreate
  obtain ⟨c, tl, hmro⟩ := F.called_set.mro
  have hmade := F.called_set.made
  have hsub := F.called_set.sub
  have hct := F.typeCall_set_1 (.ref l)
  refine wpAny_call (codeAny_of_tree ?_)
  show wpAny _ _ (callAny (.type "set") _) _ _ _
  refine wpAny_pure ⟨Code.quiet_builtin _ (by decide +kernel), codeAny_builtin F.entry_type_call ?_⟩
  rw [Around.under_plain (weight_type_call_type "set" [.ref l] []) rfl]
  repeat (any_goals (first | assumption | wp_step))
  refine codeAny_mono (code_set_led1 (.ref l) (E := E) (Q₁ := fun obj s₁ => obj = .ref s.heap.objs.size ∧ s₁ = { s with heap := s.heap.push fresh }) ⟨rfl, by rw [← hfresh]⟩) fun r s₁ hr => ?_
  cases r with
  | error e => exact hr
  | ok fl =>
    cases fl with
    | ret obj =>
      obtain ⟨rfl, rfl⟩ := hr
      have hlive : fresh.isFreed = false := by rw [← hfresh]; rfl
      have hS : (s.heap.push fresh).get? s.heap.objs.size = some fresh := by subst hfresh; exact Heap.get?_push_size _ rfl
      have hT : Shared.TypeIs { s with heap := s.heap.push fresh } (.ref s.heap.objs.size) "set" := ⟨_, hS, by rw [← hfresh]⟩
      have hli := F.called_set.init.lookup
      have hbi := F.called_set.init.bind (.ref s.heap.objs.size)
      repeat (any_goals (first | assumption | wp_step))
      refine codeAny_mono (codeAny_call_builtin (R := wants (fun r s₂ => r = .none ∧ ∃ h' tk c, s₂ = { s with heap := h', toks := tk } ∧ SetR w h' s.heap.objs.size (fun j => decide (j ∈ ns)) c ∧ c ≤ ns.length ∧
          (∀ b o, s.heap.get? b = some o → h'.get? b = some o)) E) F.called_set.init.plain F.entry_set_init (check_set_init_1 hT ?_)) fun r₂ s₂ hr₂ => ?_
      · subst hfresh
        obtain ⟨⟨ocls, odict, odata, oslots⟩, hol, hcl, nl, hdl⟩ := hl
        simp only at hcl hdl
        subst hcl hdl
        have hol2 : (s.heap.push ({ cls := .type "set", dict := none, data := .set #[] 0 (.fresh 0 0 (!w.params.followText "set-order")) } : Obj)).get? l = some { cls := .type "list", dict := odict, data := .seq items nl, slots := oslots } := Heap.get?_push_of_some _ hol
        have hsls := F.sub_list_set
        have hslf := F.sub_list_frozenset
        have hne : (Value.type "list" == Value.type "dict") = false := by decide
        have hl1 : (s.heap.push ({ cls := .type "set", dict := none, data := .set #[] 0 (.fresh 0 0 (!w.params.followText "set-order")) } : Obj)).IsList l items := ⟨_, hol2, rfl, nl, rfl⟩
        unfold Builtin.«set.__init__» noKeywords Builtin.Frozenset.updateFrom
        generalize hPI : pyIter = PI
        wp_walk
        subst hPI
        refine wpAny_pyIter_list hl1 ?_
        refine wpAny_bind (wpAny_runValue ?_)
        have hlS : l < s.heap.objs.size := Heap.lt_size hol
        have sz : (s.heap.push ({ cls := .type "set", dict := none, data := .set #[] 0 (.fresh 0 0 (!w.params.followText "set-order")) } : Obj)).objs.size = s.heap.objs.size + 1 := Heap.size_push ..
        have hneI : l ≠ (s.heap.push ({ cls := .type "set", dict := none, data := .set #[] 0 (.fresh 0 0 (!w.params.followText "set-order")) } : Obj)).objs.size := by rw [sz]; exact Nat.ne_of_lt (Nat.lt_succ_of_lt hlS)
        refine set_update_ints ((Walks.list (show A.in1.in1.in1.handled = none by simp [hh]) _ l hneI items).toS) s.heap.objs.size
          (by rw [sz]; simp only [List.mem_cons, List.not_mem_nil, or_false, not_or]; exact ⟨Nat.ne_of_lt (Nat.lt_succ_self _), Nat.ne_of_gt hlS⟩) ns size hb (fun i v hv => ?val) (items.size - 0) 0 _ (by omega) (Nat.zero_le _)
          ⟨⟨_, Heap.get?_push_size _ rfl, rfl, rfl⟩, (hl1.push _)⟩ ?hS0 ?hR
        case val =>
          have hi : i < ns.length := by rw [← size]; exact (Array.getElem?_eq_some_iff.mp hv).1
          obtain ⟨t, e⟩ := PyProof.Rows.IntsAre.int_at hit i v (by rw [Array.getElem?_toList]; exact hv)
          exact ⟨ns[i], t, List.getElem?_eq_getElem hi, by rw [e, List.getD_eq_getElem?_getD, List.getElem?_eq_getElem hi] <;> rfl⟩
        case hS0 =>
          refine ⟨0, Nat.le_refl 0, setR_new_at ?_⟩
          exact Heap.get?_push_of_some _ hS
        case hR =>
          intro s' c' hm hc' hS'
          obtain ⟨h', g2, d', tk', os'⟩ := s'
          obtain rfl : g2 = s.gens := hm.gens
          obtain rfl : d' = s.drawn := hm.drawn
          obtain rfl : os' = s.os := hm.os
          show wpAny _ _ _ _ _ _
          refine wpAny_pure ?_
          show wpAny _ _ (ret Value.none) _ _ _
          rw [size] at hc'
          refine wpAny_pure ⟨rfl, h', tk', c', rfl, hS', hc', fun b o e => ?_⟩
          have hb0 : b < s.heap.objs.size := Heap.lt_size e
          refine hm.heap b o ?_ (Heap.get?_push_of_some _ (Heap.get?_push_of_some _ e))
          rw [sz]
          simp only [List.mem_cons, List.not_mem_nil, or_false, not_or]
          exact ⟨Nat.ne_of_lt hb0, Nat.ne_of_lt (Nat.lt_succ_of_lt hb0)⟩
      · cases r₂ with
        | error e => exact hr₂
        | ok fl₂ =>
          cases fl₂ with
          | ret r =>
            obtain ⟨rfl, h', tk, c', rfl, hS', hc', hk'⟩ := hr₂
            repeat (any_goals (first | assumption | wp_step))
            exact h _ _ _ hS' hc' hk'
          | _ => exact hr₂.elim
    | _ => exact hr.elim
end DZ

/-! DzM: chained tests, stores side by side, sorted(set(..)). -/
namespace DZ
open PySem PySem.Spec PyProof.Rows L2
open Classical

section
variable {X : Cx} {cl : Str → Option Addr}
variable {e a b c o : Expr} {es : List Expr} {fa fb fc fo : EF} {fr : AF} {F G : OF} {pos : Pos} {t u : TF}
theorem t_chain {op op' : CmpOp} (ho : OpR X (compareOp op) (lOp (Cx.g X cl) F)) (ho' : OpR X (compareOp op') (lOp (Cx.g X cl) G)) (ha : PD X cl a fa) (hb : PD X cl b fb) (hc : PD X cl c fc)
    (hm : lastMarks [op, op'] [b, c] = false := by with_unfolding_all rfl) : TD X cl (.Compare a [op, op'] [b, c] pos) (tOf (eChain F G fa fb fc)) := PT.imp (pt_chain ho ho' ha hb hc hm) fun σ H Q h => by
  obtain ⟨w, ρ, S, d, S', hE, hS, hf, k⟩ := TD.of h
  obtain ⟨⟨x, S1⟩, h1, hf⟩ := obind hf
  obtain ⟨⟨y, S2⟩, h2, hf⟩ := obind hf
  obtain ⟨⟨z, S3⟩, h3, hf⟩ := obind hf
  refine ⟨w, ρ, S, x, S1, hE, hS, h1, fun w1 H1 v a1 s1 r1 => ⟨w1, ρ, S1, y, S2, hE.adv a1 hS, s1, h2, fun w2 H2 u a2 s2 r2 => ⟨w2, S2, x, y, z, S3, s2, r1.adv a2 s1 _ _, r2, h3, fun w3 H3 q a3 s3 r3 => ?_⟩⟩⟩
  cases z with
  | bl b =>
    simp only [RepV] at r3
    subst r3
    refine ⟨b, rfl, ?_⟩
    have k3 := ((k.from a1 s1).from a2 s2).from a3 s3
    cases b with
    | true =>
      simp only [if_true]
      obtain ⟨⟨y4, S4⟩, h4, hf⟩ := obind hf
      exact ⟨w3, ρ, S3, y4, S4, ((hE.adv a1 hS).adv a2 s1).adv a3 s2, s3, h4, fun w4 H4 u4 a4 s4 r4 => ⟨w4, S4, y, y4, d, S', s4, (r2.adv a3 s2 _ _).adv a4 s3 _ _, r4, hf, k3.from a4 s4⟩⟩
    | false =>
      cases hf
      simp only [Bool.false_eq_true, if_false]
      exact k3.now s3 (by simp [RepV])
  | _ => cases hf

/-- a, b = x, y -/
def sPar (i j : Nat) (f : AF) : SF := fun ρ S => (f ρ S).bind fun r => match r.1 with
  | [x, y] => some (.nx, (ρ.set i (some x)).set j (some y), r.2)
  | _ => none
def sPar3 (i j l : Nat) (f : AF) : SF := fun ρ S => (f ρ S).bind fun r => match r.1 with
  | [x, y, z] => some (.nx, ((ρ.set i (some x)).set j (some y)).set l (some z), r.2)
  | _ => none
theorem RepE.set {g : Gx} {w : Wo} {H : Hp} {ρ : Env} {σ : L2.St} {d : D} {v : V} (r : RepE g w H ρ σ) (rd : RepV g w H d v) (i : Nat) : RepE g w H (ρ.set i (some d)) (σ.set i (some v)) :=
  ⟨by simp [r.len], fun j z e => by
    by_cases hj : i = j
    · subst hj
      rw [List.getElem?_set] at e
      split at e
      · split at e
        · rename_i hlt
          cases e
          exact ⟨v, by rw [List.getElem?_set_self (by rw [← r.len]; exact hlt)], rd⟩
        · cases e
      · rename_i hne; exact absurd rfl hne
    · rw [List.getElem?_set_ne hj] at e ⊢
      exact r.at_ j z e⟩
theorem s_par {i j : Nat} {x y : Str} {px py pt : Pos} {kt k2 pt2} (hc : X.calm = true) (hN : X.N.Nodup) (hi : X.N[i]? = some x) (hj : X.N[j]? = some y) (hij : i ≠ j)
    (hx : X.env.scope.names.lookup x = some .local) (hy : X.env.scope.names.lookup y = some .local) (ha : AD X cl [a, b] fr)
    (hw : swappedStores [.Tuple [.Name x px, .Name y py] kt pt] (.Tuple [a, b] k2 pt2) X.env = pure (some [x, y]))
    (hs : swapsWithSole [.Tuple [.Name x px, .Name y py] kt pt] (.Tuple [a, b] k2 pt2) pos.line X.env = pure false := by rfl) :
    SD X cl (.Assign [.Tuple [.Name x px, .Name y py] kt pt] (.Tuple [a, b] k2 pt2) pos) (sPar i j fr) := PS.imp (ps_par hc hN hi hj hij hx hy ha hw hs) fun D σ H h => by
  obtain ⟨w, ρ, S, r, hE, hS, hf, k⟩ := h
  obtain ⟨⟨x, S1⟩, h1, hf⟩ := obind hf
  refine ⟨w, ρ, S, x, S1, hE, hS, h1, fun w1 H1 vs a1 s1 r1 => ?_⟩
  dsimp only at hf
  split at hf
  · cases hf
    obtain ⟨v, u, rfl, rv, ru⟩ := r1.two'
    exact ⟨v, u, rfl, (show KG1 _ w H _ S1 D.nx from k) w1 _ H1 a1 (((hE.adv a1 hS).set rv i).set ru j) s1⟩
  · cases hf
theorem s_par3 {i j l : Nat} {x y z : Str} {px py pz pt : Pos} {kt k2 pt2} (hc : X.calm = true) (hN : X.N.Nodup) (hi : X.N[i]? = some x) (hj : X.N[j]? = some y) (hl : X.N[l]? = some z) (hij : i ≠ j) (hil : i ≠ l) (hjl : j ≠ l)
    (hx : X.env.scope.names.lookup x = some .local) (hy : X.env.scope.names.lookup y = some .local) (hz : X.env.scope.names.lookup z = some .local) (ha : AD X cl [a, b, c] fr)
    (hw : swappedStores [.Tuple [.Name x px, .Name y py, .Name z pz] kt pt] (.Tuple [a, b, c] k2 pt2) X.env = pure (some [x, y, z]))
    (hs : swapsWithSole [.Tuple [.Name x px, .Name y py, .Name z pz] kt pt] (.Tuple [a, b, c] k2 pt2) pos.line X.env = pure false := by rfl) :
    SD X cl (.Assign [.Tuple [.Name x px, .Name y py, .Name z pz] kt pt] (.Tuple [a, b, c] k2 pt2) pos) (sPar3 i j l fr) := PS.imp (ps_par3 hc hN hi hj hl hij hil hjl hx hy hz ha hw hs) fun D σ H h => by
  obtain ⟨w, ρ, S, r, hE, hS, hf, k⟩ := h
  obtain ⟨⟨x, S1⟩, h1, hf⟩ := obind hf
  refine ⟨w, ρ, S, x, S1, hE, hS, h1, fun w1 H1 vs a1 s1 r1 => ?_⟩
  dsimp only at hf
  split at hf
  · cases hf
    simp only [RepVs] at r1
    obtain ⟨v, _, rfl, rv, u, _, rfl, ru, q, _, rfl, rq, rfl⟩ := r1
    exact ⟨v, u, q, rfl, (show KG1 _ w H _ S1 D.nx from k) w1 _ H1 a1 ((((hE.adv a1 hS).set rv i).set ru j).set rq l) s1⟩
  · cases hf

/-! ### sorted(set(..)) -/
def sortedSet (ns : List Int) : List Int := (ns.mergeSort (fun a b => decide (a ≤ b))).eraseDups
def aSortedSet (f : EF) : AF := fun ρ S => (f ρ S).bind fun r => (lstOf r.2 r.1).bind fun xs => (intsOf xs).bind fun ns => if ns.length < 63 then some ((sortedSet ns).map .int, r.2) else none
theorem eraseDups_sorted : ∀ (n : Nat) (ns : List Int), ns.length ≤ n → ns.Pairwise (· ≤ ·) → ns.eraseDups.Pairwise (· < ·)
  | _, [], _, _ => by simp [List.eraseDups]
  | 0, a :: ns, h, _ => by simp at h
  | n + 1, a :: ns, h, hp => by
    rw [List.eraseDups_cons]
    have h1 := List.pairwise_cons.mp hp
    refine List.pairwise_cons.mpr ⟨fun b hb => ?_, eraseDups_sorted n _ ?_ (h1.2.sublist (List.filter_sublist))⟩
    · have hb' := List.mem_filter.mp (List.mem_eraseDups.mp hb)
      have := h1.1 b hb'.1
      have h3 := hb'.2
      simp only [Bool.not_eq_eq_eq_not, Bool.not_true, beq_eq_false_iff_ne, ne_eq] at h3
      omega
    · have := List.length_filter_le (fun b => !b == a) ns
      simp only [List.length_cons] at h
      omega
theorem sortedSet_lt (ns : List Int) : (sortedSet ns).Pairwise (· < ·) := eraseDups_sorted _ _ (Nat.le_refl _) (msort_sorted ns)
theorem sortedSet_mem {ns : List Int} {k : Int} : k ∈ sortedSet ns ↔ k ∈ ns := by
  unfold sortedSet
  rw [List.mem_eraseDups, List.mem_mergeSort]
theorem sortedSet_unique {ns ms : List Int} (h1 : ms.Pairwise (· < ·)) (h2 : ∀ k, k ∈ ms ↔ k ∈ ns) : ms = sortedSet ns := by
  have nd : ms.Nodup := h1.imp fun h => by omega
  have nd2 : (sortedSet ns).Nodup := (sortedSet_lt ns).imp fun h => by omega
  have pm : ms.Perm (sortedSet ns) := (List.perm_ext_iff_of_nodup nd nd2).mpr fun k => (h2 k).trans sortedSet_mem.symm
  exact sorted_unique pm (h1.imp fun h => by omega) ((sortedSet_lt ns).imp fun h => by omega)
/-- set(l) -/
def rSetL (K : PySem.W.Frag) (w : World) : List V → Hp → VK → Prop := fun vs H Q => ∃ (p : Addr) (ns : List Int), vs = [.ref p] ∧ SqL K H p (ns.map V.int) ∧ ns.length ≤ 1000 ∧
  ∀ (q : Addr) (c : Nat), H q = none → c ≤ ns.length → Q (.ref q) (upd H q (SetO w q (fun j => decide (j ∈ ns)) c))
theorem cr_setL (hc : X.calm = true) : CallR X (.type "set") (rSetL X.K X.w) := by
  intro pins s σ H vs us Q I r h
  obtain ⟨p, ns, rfl, hq, hl, q⟩ := h
  rw [Vals.ref1 r]
  obtain ⟨its, rv, pt, hz⟩ := I.list hq
  refine set_of_list ns (I.ok.hd hc) (let ⟨o, n, e1, e2, _, e3⟩ := pt; ⟨o, e1, e2, n, e3⟩) (ints_of_vals rv) (by unfold scanBound; omega) fun h' tk c R1 hcn k => ?_
  exact ⟨.ref s.heap.objs.size, upd H s.heap.objs.size (SetO X.w s.heap.objs.size (fun j => decide (j ∈ ns)) c), I.laid (t' := tk) k (Nat.le_refl _) (setO_new R1), rfl, q _ c (I.hok.fresh (Nat.le_refl _)) hcn⟩
theorem l_sortedSet {p p2 pos' : Pos} (hc : X.calm = true) (hm : X.mg "sorted" = none) (hms : X.mg "set" = none) (ha : PD X cl a fa) (hg : Gl X "sorted" := by rfl) (hgs : Gl X "set" := by rfl)
    (na : starEach [.Call (.Name "set" p2) [a] [] pos] X.env = (false, eval (.Call (.Name "set" p2) [a] [] pos) X.env) :: starEach [] X.env := by rfl) (na2 : starEach [a] X.env = (false, eval a X.env) :: starEach [] X.env := by rfl)
    (hv : bootBuiltins "sorted" = some (.builtin "sorted") := by decide +kernel) (hv2 : bootBuiltins "set" = some (.type "set") := by decide +kernel) :
    LD X cl (.Call (.Name "sorted" p) [.Call (.Name "set" p2) [a] [] pos] [] pos') (aSortedSet fa) :=
  PE.imp (pe_callB (cr_sortedSet hc) hg hm hv (pa_cons (pe_callTy (cr_setL hc) hgs hms hv2 (pa_cons ha pa_nil na2) (by decide) (by decide) na2 rfl) pa_nil na) (by decide) (by decide) na rfl) fun σ H Q h => by
    obtain ⟨w, ρ, S, d, S', hE, hS, hf, k⟩ := h
    obtain ⟨⟨x, S1⟩, h1, hf⟩ := obind hf
    obtain ⟨xs, h2, hf⟩ := obind hf
    obtain ⟨ns, h3, hf⟩ := obind hf
    dsimp only at hf
    split at hf
    · rename_i hl
      cases hf
      refine ⟨w, ρ, S, x, _, hE, hS, h1, fun w1 H1 v a1 s1 r1 => ?_⟩
      obtain ⟨p0, vs, rfl, q, rv⟩ := r1.lstOf s1 h2
      rw [intsOf_is h3] at rv
      have e := rv.ints
      subst e
      refine ⟨p0, ns, rfl, SqL.of q, by omega, fun q0 c hq0 hcn => ?_⟩
      refine ⟨q0, _, c, rfl, upd_same, by omega, fun ms p1 hlt hmem hlen hp1 => ?_⟩
      have em : ms = sortedSet ns := sortedSet_unique hlt fun k => (hmem k).trans decide_eq_true_iff
      subst em
      exact kl_new (w1 := w1) (k.from a1 s1) (Adv.laid hq0) (s1.laid hq0) (RepVs.of_ints _) hp1
    · cases hf
end
end DZ

/-! DzW: from a def's row and the head's facts to what it does. -/
namespace DZ
open PySem PySem.Spec PyProof.Rows L2
open Classical

def opNeg : D → Store → Option (D × Store) := fun a S => match a with
  | .int i => some (.int (-i), S)
  | _ => none
theorem o_neg {X : Cx} {cl : Str → Option Addr} : UnR X (unaryOp .USub) (fun x H Q => ∃ w S a d S', RepS (Cx.g X cl) w S H ∧ RepV (Cx.g X cl) w H a x ∧ opNeg a S = some (d, S') ∧ KV1 (Cx.g X cl) w H d S' Q) := by
  intro pins s σ H x v Q I r h
  obtain ⟨w, S, a, d, S', hS, ra, hf, k⟩ := h
  unfold opNeg at hf
  split at hf
  · cases hf
    simp only [RepV] at ra
    exact un_neg pins s σ H x v Q I r ⟨_, ra, k.now hS (by simp [RepV])⟩
  · cases hf

theorem units65 {k : Nat} {A : Around} (r : Room k A) : A.units + 65 < cLine := by have := r.un; omega
/-- where the classes stand -/
def clsOf (K : PySem.W.Frag) (cs : List Str) : Str → Option Addr := fun x => if x ∈ cs then some (He.ga K x) else none

section
variable {P : Program} {w : World} {K : PySem.W.Frag} {mg : Str → Option Value} {base : Heap} {cl : Str → Option Addr} {x qual : Str} {params : Arguments} {body : List Stmt} {scope : Scope} {dvs : List V} {f : Addr} {fd : FuncData} {N ps : List Str} {k n : Nat} {F : FF} {B : SF}
/-- a def's promise, by its body -/
theorem ok_of {kws : List (Str × V)} (Fd : FunD K x qual params body scope dvs kws f fd) (S : FnScope N ps scope) (hF : ∀ g vs H Q, lC g F vs H Q → lC g (runF N.length B) vs H Q)
    (hb : ∀ (cdv : Value) (A : Around) (outer : List PySem.Env) (s : Shared) (H : Hp) (E : XK), Room k (A.deeper (envOfC qual scope s.heap.objs.size f cdv)) → SsD (cxOf CX0 P w K mg base N qual scope f cdv A outer s H E).nox cl body B) :
    FnOk P w K mg base CX0 (k + 1) f fd ps (liftSp ⟨K, cl⟩ ps.length F) :=
  Fd.ok S (fun vs H Q E h => h.1) fun cdv A outer s H vs Q E hr h => ⟨_, PSs.nox (hb cdv A outer s H E hr), run_read (hF _ vs H Q h.2)⟩
theorem Fn.of (h : FnOk P w K mg base CX0 k f fd ps (liftSp ⟨K, cl⟩ n F)) (hm : mg x = some (.ref f)) (hk : PySem.W.keepIn K (.ref f) = true) (hb : Binds K fd ps []) : Fn P w K mg base cl k x n F :=
  ⟨f, fd, ps, _, [], [], h, Gives.all, hm, hk, .nil, hb⟩
theorem Mt.of {C : Addr} {c m : Str} (h : FnOk P w K mg base CX0 k f fd ps (liftSp ⟨K, cl⟩ n F)) (hC : cl c = some C) (h1 : Cls K C) (h2 : Meth K C m f) (hb : Binds K fd ps []) : Mt P w K mg base cl k c m n F :=
  ⟨C, f, fd, ps, _, [], [], hC, h1, h2, h, Gives.all, .nil, hb⟩
theorem Mkr.of {C : Addr} {c : Str} (h : FnOk P w K mg base CX0 k f fd ps (liftSp ⟨K, cl⟩ n F)) (hC : cl c = some C) (hm : mg c = some (.ref C)) (h2 : Mk K C f) (hb : Binds K fd ps []) : Mkr P w K mg base cl k c n F :=
  ⟨C, f, fd, ps, _, [], [], hC, hm, h2, h, Gives.all, .nil, hb⟩
/-- j defaults used, by values -/
theorem Fn.ofD {m : Nat} {ws : List D} {ds : List V} {us : List Value} (h : FnOk P w K mg base CX0 k f fd ps (liftSp ⟨K, cl⟩ m F)) (hm : mg x = some (.ref f)) (hk : PySem.W.keepIn K (.ref f) = true) (hv : Vals ds us) (hb : Binds K fd ps us) (hw : ∀ w H, RepVs ⟨K, cl⟩ w H ws ds) (hn : n + ds.length = m) : Fn P w K mg base cl k x n (dfl ws F) :=
  ⟨f, fd, ps, _, ds, us, h, Gives.dfl hw hn, hm, hk, hv, hb⟩
theorem Mt.ofD {C : Addr} {c m' : Str} {m : Nat} {ws : List D} {ds : List V} {us : List Value} (h : FnOk P w K mg base CX0 k f fd ps (liftSp ⟨K, cl⟩ m F)) (hC : cl c = some C) (h1 : Cls K C) (h2 : Meth K C m' f) (hv : Vals ds us) (hb : Binds K fd ps us) (hw : ∀ w H, RepVs ⟨K, cl⟩ w H ws ds) (hn : n + ds.length = m) : Mt P w K mg base cl k c m' n (dfl ws F) :=
  ⟨C, f, fd, ps, _, ds, us, hC, h1, h2, h, Gives.dfl hw hn, hv, hb⟩
theorem Mkr.ofD {C : Addr} {c : Str} {m : Nat} {ws : List D} {ds : List V} {us : List Value} (h : FnOk P w K mg base CX0 k f fd ps (liftSp ⟨K, cl⟩ m F)) (hC : cl c = some C) (hm : mg c = some (.ref C)) (h2 : Mk K C f) (hv : Vals ds us) (hb : Binds K fd ps us) (hw : ∀ w H, RepVs ⟨K, cl⟩ w H ws ds) (hn : n + ds.length = m) : Mkr P w K mg base cl k c n (dfl ws F) :=
  ⟨C, f, fd, ps, _, ds, us, hC, hm, h2, h, Gives.dfl hw hn, hv, hb⟩
/-- no depth left: nothing is promised -/
theorem ok_none : FnOk P w K mg base CX0 k f fd ps (liftSp ⟨K, cl⟩ n fun _ _ => none) where
  len := fun vs H Q E h => by
    obtain ⟨_, w, S, ds, d, S', s, r, hf, k⟩ := h
    cases hf
  run := fun A outer s H args us vs Q E hr he hb hv h => by
    obtain ⟨_, w, S, ds, d, S', s, r, hf, k⟩ := h
    cases hf
theorem keepF {g : Gx} {F : FF} : ∀ vs H Q, lC g F vs H Q → lC g F vs H Q := fun _ _ _ h => h
end
section
variable {K : PySem.W.Frag} {h : Heap} {mg : Str → Option Value} {cs : List Str} {x : Str}
theorem cls_in (hx : x ∈ cs) : clsOf K cs x = some (He.ga K x) := if_pos hx
theorem gl_int {g : Gx} {i : Int} (e : ∃ t, mg x = some (.int i t)) : ∃ u v, mg x = some u ∧ RelV v u ∧ ∀ w H, RepV g w H (.int i) v := by
  obtain ⟨t, e⟩ := e
  exact ⟨_, .int i, e, ⟨t, rfl⟩, fun w H => by simp [RepV]⟩
theorem gl_str {g : Gx} {i : Str} (e : ∃ t, mg x = some (.str i t)) : ∃ u v, mg x = some u ∧ RelV v u ∧ ∀ w H, RepV g w H (.str i) v := by
  obtain ⟨t, e⟩ := e
  exact ⟨_, .str i, e, ⟨t, rfl⟩, fun w H => by simp [RepV]⟩
theorem gl_tup {cl : Str → Option Addr} {ds : List D} {vs : List V} (e : mg x = some (.ref (He.ga K x))) (q : ∀ H, SqT K H (He.ga K x) vs) (r : ∀ w H, RepVs ⟨K, cl⟩ w H ds vs) : ∃ u v, mg x = some u ∧ RelV v u ∧ ∀ w H, RepV ⟨K, cl⟩ w H (.tup ds) v :=
  ⟨_, .ref (He.ga K x), e, rfl, fun w H => by
    simp only [RepV]
    exact ⟨_, vs, rfl, q H, r w H⟩⟩
theorem fld_nil {X : Cx} {cl : Str → Option Addr} {f : Str} : FldOk X cl [] f := fun c hc => by cases hc
theorem fld_cons {X : Cx} {f c : Str} {cs' : List Str} (hx : c ∈ cs) (h1 : Cls X.K (He.ga X.K c)) (h2 : NoAttr X.K (He.ga X.K c) f) (h3 : FldOk X (clsOf X.K cs) cs' f) : FldOk X (clsOf X.K cs) (c :: cs') f := fun c' hc => by
  rcases List.mem_cons.mp hc with rfl | hc
  · exact ⟨_, cls_in hx, h1, h2⟩
  · exact h3 c' hc
end
/-! ### the head's hook, with what else is told of the fragment -/
def obsE (n : Nat) (fa : List He.Fa) (fn : List He.DefD) (ex : PySem.W.Frag → Bool) (g : Addr → Option Obj) : He.AlD × Bool := (He.obsDG n fa fn g, ex (He.frG g (He.asD g n)))
def hookE (n : Nat) (fa : List He.Fa) (fn : List He.DefD) (ex : PySem.W.Frag → Bool) : PySem.W.Hook where
  α := He.AlD × Bool
  obs := fun s => obsE n fa fn ex s.heap.get?
  val := fun _ => (He.valD fn, true)
  says := fun _ h => ∃ K : PySem.W.Frag, K.In h ∧ He.SaysD fa fn K ∧ ex K = true
  of := fun _ _ e => ⟨_, He.frG_in, congrArg Prod.fst e, congrArg Prod.snd e⟩
  keeps := fun _ _ _ ⟨K, hK, c⟩ k => ⟨K, PySem.W.Frag.In.keeps hK k, c⟩
theorem obsE_eq {n : Nat} {fa : List He.Fa} {fn : List He.DefD} {ex : PySem.W.Frag → Bool} {g : Addr → Option Obj} {s : Shared} (h : ∀ a, g a = s.heap.get? a) : obsE n fa fn ex g = (hookE n fa fn ex).obs s := by
  have e : g = s.heap.get? := funext h
  rw [e] <;> rfl
end DZ

/-! DzN: the readings run: one equation a construct, loops by invariants. -/
namespace DZ
open PySem PySem.Spec PyProof.Rows L2
open Classical

/-- it runs and its result is as wanted -/
def Ok {α : Type} (r : Option α) (P : α → Prop) : Prop := ∃ a, r = some a ∧ P a
section
variable {α β : Type} {P Q : α → Prop} {r : Option α}
@[simp] theorem Ok_some {a : α} : Ok (some a) P ↔ P a := ⟨fun ⟨_, e, h⟩ => by cases e; exact h, fun h => ⟨a, rfl, h⟩⟩
@[simp] theorem Ok_none : Ok (none : Option α) P ↔ False := ⟨fun ⟨_, e, _⟩ => (nomatch e), fun h => h.elim⟩
@[simp] theorem Ok_bind {f : α → Option β} {P : β → Prop} : Ok (r.bind f) P ↔ Ok r fun a => Ok (f a) P := by
  cases r <;> simp
theorem Ok.mono (h : Ok r P) (i : ∀ a, P a → Q a) : Ok r Q := let ⟨a, e, p⟩ := h; ⟨a, e, i a p⟩
theorem Ok.eq {a : α} (e : r = some a) (h : P a) : Ok r P := ⟨a, e, h⟩
theorem Ok.iff {a : α} (e : r = some a) : Ok r P ↔ P a := by rw [e]; exact Ok_some
end

section
variable {ρ : Env} {S : Store} {d : D} {fa fb fc fo f g : EF} {fr : AF} {F G : OF} {t u : TF} {s s' : SF} {tg : GF} {iF : IF}
@[simp] theorem ev_var0 {o : Option D} : eVar 0 (o :: ρ) S = (o.bind fun d => some (d, S)) := by unfold eVar; cases o <;> rfl
@[simp] theorem ev_varS {o : Option D} {i : Nat} : eVar (i + 1) (o :: ρ) S = eVar i ρ S := by unfold eVar; simp
@[simp] theorem ev_C : eC d ρ S = some (d, S) := (rfl)
@[simp] theorem ev_bin : eBin F fa fb ρ S = (fa ρ S).bind fun r => (fb ρ r.2).bind fun q => F r.1 q.1 q.2 := (rfl)
@[simp] theorem ev_un {U : D → Store → Option (D × Store)} : eUn U fa ρ S = (fa ρ S).bind fun r => U r.1 r.2 := (rfl)
@[simp] theorem ev_chain : eChain F G fa fb fc ρ S = (fa ρ S).bind fun r => (fb ρ r.2).bind fun q => (F r.1 q.1 q.2).bind fun z => match z.1 with
  | .bl true => (fc ρ z.2).bind fun y => G q.1 y.1 y.2
  | .bl false => some (.bl false, z.2)
  | _ => none := (rfl)
@[simp] theorem ev_and : eAnd fa fb ρ S = (fa ρ S).bind fun r => match r.1 with
  | .bl true => fb ρ r.2
  | .bl false => some (.bl false, r.2)
  | _ => none := (rfl)
@[simp] theorem ev_or : eOr fa fb ρ S = (fa ρ S).bind fun r => match r.1 with
  | .bl false => fb ρ r.2
  | .bl true => some (.bl true, r.2)
  | _ => none := (rfl)
@[simp] theorem ev_not : eNot fa ρ S = (fa ρ S).bind fun r => match r.1 with
  | .bl b => some (.bl (!b), r.2)
  | _ => none := (rfl)
@[simp] theorem ev_if : eIf t fa fb ρ S = (t ρ S).bind fun r => if r.1 = true then fa ρ r.2 else fb ρ r.2 := (rfl)
@[simp] theorem ev_nil : aNil ρ S = some ([], S) := (rfl)
@[simp] theorem ev_cons : aCons fa fr ρ S = (fa ρ S).bind fun r => (fr ρ r.2).bind fun q => some (r.1 :: q.1, q.2) := (rfl)
@[simp] theorem ev_tup : eTup fr ρ S = (fr ρ S).bind fun r => if r.1.length ≤ 1000000 then some (.tup r.1, r.2) else none := (rfl)
@[simp] theorem ev_max : aMax fr ρ S = (fr ρ S).bind fun r => if r.1.length ≤ 1000000 then some r else none := (rfl)
@[simp] theorem ev_call {F : FF} : eCall F fr ρ S = (fr ρ S).bind fun r => F r.1 r.2 := (rfl)
@[simp] theorem ev_acall {F : List D → Store → Option (List D × Store)} : aCall F fr ρ S = (fr ρ S).bind fun r => F r.1 r.2 := (rfl)
@[simp] theorem ev_def {F : FF} {n : Nat} : eDef n F fr ρ S = (fr ρ S).bind fun r => if r.1.length = n then F r.1 r.2 else none := by
  unfold eDef eCall aLen
  cases fr ρ S with
  | none => rfl
  | some r =>
    simp only [Option.bind_some]
    split <;> rfl
@[simp] theorem ev_meth {F : FF} {c m : Str} {n : Nat} : eMeth c m n F fo fr ρ S = (fo ρ S).bind fun r => (insOf r.2 r.1).bind fun q => if q.1 = c ∧ q.2.lookup m = none then (fr ρ r.2).bind fun z => if z.1.length + 1 = n then F (r.1 :: z.1) z.2 else none else none := (rfl)
@[simp] theorem ev_make {F : FF} {c : Str} {n : Nat} : eMake c n F fr ρ S = (fr ρ S).bind fun z => if z.1.length + 1 = n then (F (.loc z.2.length :: z.1) (z.2 ++ [.ins c []])).bind fun r => match r.1 with
    | .non => some (.loc z.2.length, r.2)
    | _ => none
  else none := (rfl)
@[simp] theorem ev_fz : eFz fr ρ S = (fr ρ S).bind fun r => some (.lst r.1, r.2) := (rfl)
@[simp] theorem ev_ce : eCe fr ρ S = (fr ρ S).bind fun r => some (.loc r.2.length, r.2 ++ [.lst r.1]) := (rfl)
@[simp] theorem ev_dct : eDct ρ S = some (.loc S.length, S ++ [.dct []]) := (rfl)
@[simp] theorem ev_fld {cs : List Str} {x : Str} : eFld cs x fa ρ S = (fa ρ S).bind fun r => (insOf r.2 r.1).bind fun q => if q.1 ∈ cs then (q.2.lookup x).bind fun d => some (d, r.2) else none := (rfl)
@[simp] theorem ev_isi {T : String} : eIsi T fa ρ S = (fa ρ S).bind fun r => (tyN r.2 r.1).bind fun t => (kitB t T).bind fun z => some (.bl z, r.2) := (rfl)
@[simp] theorem ev_sl {fl fh : Env → Store → Option (Option Int × Store)} : eSl fa fl fh ρ S = (fa ρ S).bind fun r => (fl ρ r.2).bind fun q => (fh ρ q.2).bind fun z => opSl r.1 q.1 z.1 z.2 := (rfl)
@[simp] theorem ev_pno : pNo ρ S = some (none, S) := (rfl)
@[simp] theorem ev_pso : pSo fa ρ S = (fa ρ S).bind fun r => match r.1 with
  | .int i => some (some i, r.2)
  | _ => none := (rfl)
@[simp] theorem ev_rgt : eRgT fr ρ S = (rgF fr ρ S).bind fun r => some (.tup r.1, r.2) := (rfl)
/-- within a range's bounds (behind a name: the kernel must not count to the bound) -/
def rngOk (j : Int) : Prop := -1000000 ≤ j ∧ j ≤ 1000000
noncomputable instance {j : Int} : Decidable (rngOk j) := Classical.propDecidable _
theorem ite_same {α : Type} {p q : Prop} [Decidable p] [Decidable q] {x y : α} (h : p ↔ q) : (if p then x else y) = if q then x else y := by
  by_cases hp : p
  · rw [if_pos hp, if_pos (h.mp hp)]
  · rw [if_neg hp, if_neg fun hq => hp (h.mpr hq)]
theorem rng_i1 {α : Type} {j : Int} {x y : α} : (if -1000000 ≤ j ∧ j ≤ 1000000 then x else y) = if rngOk j then x else y := ite_same Iff.rfl
theorem rng_i2 {α : Type} {i j : Int} {x y : α} : (if (-1000000 ≤ i ∧ i ≤ 1000000) ∧ -1000000 ≤ j ∧ j ≤ 1000000 then x else y) = if rngOk i ∧ rngOk j then x else y := ite_same Iff.rfl
@[simp] theorem ev_rg : rgF fr ρ S = (fr ρ S).bind fun r => match r.1 with
  | [.int j] => if rngOk j then some (rngD 0 j.toNat, r.2) else none
  | [.int i, .int j] => if rngOk i ∧ rngOk j then some (rngD i (j - i).toNat, r.2) else none
  | _ => none := by
  unfold rgF
  simp only [rng_i1, rng_i2] <;> rfl
@[simp] theorem ev_tof : tOf f ρ S = (f ρ S).bind fun r => match r.1 with
  | .bl b => some (b, r.2)
  | _ => none := (rfl)
@[simp] theorem ev_tand : tAndF t u ρ S = (t ρ S).bind fun r => if r.1 = true then u ρ r.2 else some (false, r.2) := (rfl)
@[simp] theorem ev_tor : tOrF t u ρ S = (t ρ S).bind fun r => if r.1 = true then some (true, r.2) else u ρ r.2 := (rfl)
@[simp] theorem ev_tnot : tNotF t ρ S = (t ρ S).bind fun r => some (!r.1, r.2) := (rfl)
@[simp] theorem ev_ttrue : tTrue ρ S = some (true, S) := (rfl)
@[simp] theorem ev_snil : sNil ρ S = some (.nx, ρ, S) := (rfl)
@[simp] theorem ev_sseq : sSeq s s' ρ S = (s ρ S).bind fun r => match r.1 with
  | .nx => s' r.2.1 r.2.2
  | _ => some r := (rfl)
@[simp] theorem ev_sex : sEx f ρ S = (f ρ S).bind fun r => some (.nx, ρ, r.2) := (rfl)
@[simp] theorem ev_sret : sRet f ρ S = (f ρ S).bind fun r => some (.rt r.1, ρ, r.2) := (rfl)
@[simp] theorem ev_sif : sIf t s s' ρ S = (t ρ S).bind fun r => if r.1 = true then s ρ r.2 else s' ρ r.2 := (rfl)
@[simp] theorem ev_sasg : sAsg f tg ρ S = (f ρ S).bind fun r => (tg r.1 ρ r.2).bind fun q => some (.nx, q.1, q.2) := (rfl)
@[simp] theorem ev_gvar0 {o : Option D} : gVar 0 d (o :: ρ) S = some (some d :: ρ, S) := (rfl)
@[simp] theorem ev_gvarS {o : Option D} {i : Nat} : gVar (i + 1) d (o :: ρ) S = (gVar i d ρ S).bind fun r => some (o :: r.1, r.2) := by simp [gVar]
@[simp] theorem ev_gnil : gNilF [] ρ S = some (ρ, S) := (rfl)
@[simp] theorem ev_gcons {u : List D → Env → Store → Option (Env × Store)} {ds : List D} : gConsF tg u (d :: ds) ρ S = (tg d ρ S).bind fun r => u ds r.1 r.2 := (rfl)
@[simp] theorem ev_gtup {u : List D → Env → Store → Option (Env × Store)} {n : Nat} {ds : List D} : gTupF n u (.tup ds) ρ S = if ds.length = n then u ds ρ S else none := (rfl)
@[simp] theorem ev_gsub : gSubF fo f d ρ S = (fo ρ S).bind fun r => (f ρ r.2).bind fun q => match q.1 with
  | .int i => (locOf q.2 r.1).bind fun z => (ixN z.2.length i).bind fun j => some (ρ, q.2.set z.1 (.lst (z.2.set j d)))
  | _ => none := (rfl)
@[simp] theorem ev_sfld {cs : List Str} {x : Str} : sFldD cs x fo f ρ S = (f ρ S).bind fun y => (fo ρ y.2).bind fun r => match r.1 with
  | .loc n => match r.2[n]? with
    | some (.ins c fs) => if c ∈ cs ∧ fs.length < 1000 then some (.nx, ρ, r.2.set n (.ins c (putD x y.1 fs))) else none
    | _ => none
  | _ => none := (rfl)
@[simp] theorem ev_spar {i j : Nat} : sPar i j fr ρ S = (fr ρ S).bind fun r => match r.1 with
  | [x, y] => some (.nx, (ρ.set i (some x)).set j (some y), r.2)
  | _ => none := (rfl)
@[simp] theorem ev_spar3 {i j l : Nat} : sPar3 i j l fr ρ S = (fr ρ S).bind fun r => match r.1 with
  | [x, y, z] => some (.nx, ((ρ.set i (some x)).set j (some y)).set l (some z), r.2)
  | _ => none := (rfl)
@[simp] theorem ev_iseq : iSeq fa ρ S = (fa ρ S).bind fun r => (srcOf r.2 r.1).bind fun s => some (s, r.2) := (rfl)
@[simp] theorem ev_ienum : iEnumD fa ρ S = (fa ρ S).bind fun r => (srcOf r.2 r.1).bind fun s => some (⟨enumD 0 s.items, s.locks⟩, r.2) := (rfl)
@[simp] theorem ev_irg1 : iRg1 fr ρ S = (fr ρ S).bind fun r => match r.1 with
  | [.int j] => if rngOk j then some (⟨rngD 0 j.toNat, []⟩, r.2) else none
  | _ => none := by
  unfold iRg1
  simp only [rng_i1] <;> rfl
@[simp] theorem ev_irg2 : iRg2 fr ρ S = (fr ρ S).bind fun r => match r.1 with
  | [.int i, .int j] => if rngOk i ∧ rngOk j then some (⟨rngD i (j - i).toNat, []⟩, r.2) else none
  | _ => none := by
  unfold iRg2
  simp only [rng_i2] <;> rfl
@[simp] theorem ev_sfor : sFor iF tg s ρ S = (iF ρ S).bind fun r => forGo r.1.ok tg s r.1.items ρ r.2 := (rfl)
@[simp] theorem ev_comp {c : TF} {own : List Nat} : aComp iF tg c f own ρ S = (iF ρ S).bind fun r => if r.1.items.length ≤ 1000000 then compGo r.1.ok tg c f (wipeE ρ own) r.1.items r.2 else none := (rfl)
@[simp] theorem ev_wipe0 : wipeE ρ [] = ρ := (rfl)
@[simp] theorem ev_wipe {v : Nat} {vs : List Nat} : wipeE ρ (v :: vs) = (wipeE ρ vs).set v none := (rfl)
@[simp] theorem ev_bm {F : D → FF} : eBm isLst F fo fr ρ S = (fo ρ S).bind fun r => if (lstOf r.2 r.1).isSome = true then (fr ρ r.2).bind fun q => F r.1 q.1 q.2 else none := by
  unfold eBm
  cases fo ρ S with
  | none => rfl
  | some r =>
    simp only [Option.bind_some]
    rfl
/-! operators -/
@[simp] theorem ev_addI {i j : Int} : opAdd (.int i) (.int j) S = some (.int (i + j), S) := (rfl)
@[simp] theorem ev_addT {i j : List D} : opAdd (.tup i) (.tup j) S = if i.length + j.length ≤ 1000000 then some (.tup (i ++ j), S) else none := (rfl)
@[simp] theorem ev_addL {i j : List D} : opAdd (.lst i) (.lst j) S = if i.length + j.length ≤ 1000000 then some (.lst (i ++ j), S) else none := (rfl)
@[simp] theorem ev_sub {i j : Int} : opSub (.int i) (.int j) S = some (.int (i - j), S) := (rfl)
@[simp] theorem ev_mul {i j : Int} : opMul (.int i) (.int j) S = if i.natAbs.log2 + j.natAbs.log2 < 1000000 then some (.int (i * j), S) else none := (rfl)
@[simp] theorem ev_fdiv {i j : Int} : opFdiv (.int i) (.int j) S = if 0 < j ∧ j.natAbs.log2 < 9000 then some (.int (i / j), S) else none := (rfl)
@[simp] theorem ev_mod {i j : Int} : opMod (.int i) (.int j) S = if 0 < j then some (.int (i % j), S) else none := (rfl)
@[simp] theorem ev_pow {i j : Int} : opPow (.int i) (.int j) S = if 0 ≤ j ∧ j ≤ 1000000 ∧ i.natAbs < 2 ^ 64 then some (.int (i ^ j.toNat), S) else none := (rfl)
@[simp] theorem ev_cmp {h : Int → Int → Bool} {i j : Int} : opCmp h (.int i) (.int j) S = some (.bl (h i j), S) := (rfl)
@[simp] theorem ev_neg {i : Int} : opNeg (.int i) S = some (.int (-i), S) := (rfl)
@[simp] theorem ev_eq {a b : D} : opEq a b S = (eqD S a b).bind fun z => some (.bl z, S) := (rfl)
@[simp] theorem ev_ne {a b : D} : opNe a b S = (eqD S a b).bind fun z => some (.bl (!z), S) := (rfl)
@[simp] theorem ev_eqI {i j : Int} : eqD S (.int i) (.int j) = some (decide (i = j)) := (rfl)
@[simp] theorem ev_eqS {i j : Str} : eqD S (.str i) (.str j) = some (decide (i = j)) := (rfl)
@[simp] theorem ev_in {a b : D} : opIn a b S = (inD S a b).bind fun z => some (.bl z, S) := (rfl)
@[simp] theorem ev_notIn {a b : D} : opNotIn a b S = (inD S a b).bind fun z => some (.bl (!z), S) := (rfl)
@[simp] theorem ev_is {a b : D} : opIs a b S = (isD a b).bind fun z => some (.bl z, S) := (rfl)
@[simp] theorem ev_isNot {a b : D} : opIsNot a b S = (isD a b).bind fun z => some (.bl (!z), S) := (rfl)
@[simp] theorem ev_ixT {xs : List D} {i : Int} : opIx (.tup xs) (.int i) S = (atI xs i).bind fun d => some (d, S) := (rfl)
@[simp] theorem ev_ixL {xs : List D} {i : Int} : opIx (.lst xs) (.int i) S = (atI xs i).bind fun d => some (d, S) := (rfl)
@[simp] theorem ev_ixS {xs : List Int} {i : Int} : opIx (.scr xs) (.int i) S = (atI (xs.map .int) i).bind fun d => some (d, S) := (rfl)
@[simp] theorem ev_ixC {n : Nat} {i : Int} : opIx (.loc n) (.int i) S = (rdOf S (.loc n)).bind fun xs => (atI xs i).bind fun d => some (d, S) := (rfl)
@[simp] theorem ev_int1 {i : Int} : bInt [.int i] S = some (.int i, S) := (rfl)
@[simp] theorem ev_intB {i : Bool} : bInt [.bl i] S = some (.int (if i then 1 else 0), S) := (rfl)
@[simp] theorem ev_abs {i : Int} : bAbs [.int i] S = some (.int (if i < 0 then -i else i), S) := (rfl)
@[simp] theorem ev_len : bLen [d] S = (lenOf S d).bind fun n => some (.int n, S) := (rfl)
@[simp] theorem ev_lenT {xs : List D} : lenOf S (.tup xs) = some xs.length := (rfl)
@[simp] theorem ev_lenL {xs : List D} : lenOf S (.lst xs) = some xs.length := (rfl)
@[simp] theorem ev_lenS {xs : List Int} : lenOf S (.scr xs) = some (xs.map D.int).length := (rfl)
@[simp] theorem ev_lenC {n : Nat} : lenOf S (.loc n) = (rdOf S (.loc n)).map List.length := (rfl)
@[simp] theorem ev_max2 {i j : Int} : bMax [.int i, .int j] S = some (.int (if j > i then j else i), S) := (rfl)
@[simp] theorem ev_min2 {i j : Int} : bMin [.int i, .int j] S = some (.int (if j < i then j else i), S) := (rfl)
@[simp] theorem ev_maxL {xs : List D} : bMax [.lst xs] S = (intsOf xs).bind fun ns => (maxL ns).bind fun m => some (.int m, S) := (rfl)
@[simp] theorem ev_minL {xs : List D} : bMin [.lst xs] S = (intsOf xs).bind fun ns => (minL ns).bind fun m => some (.int m, S) := (rfl)
@[simp] theorem ev_sumL {xs : List D} : bSum [.lst xs] S = (intsOf xs).bind fun ns => some (.int ns.sum, S) := (rfl)
@[simp] theorem ev_anyL {xs : List D} : bAny [.lst xs] S = (blsOf xs).bind fun ns => some (.bl (ns.any id), S) := (rfl)
@[simp] theorem ev_allL {xs : List D} : bAll [.lst xs] S = (blsOf xs).bind fun ns => some (.bl (ns.all id), S) := (rfl)
@[simp] theorem ev_tupleL {xs : List D} : bTuple [.lst xs] S = some (.tup xs, S) := (rfl)
@[simp] theorem ev_tupleT {xs : List D} : bTuple [.tup xs] S = some (.tup xs, S) := (rfl)
@[simp] theorem ev_tupleC {n : Nat} : bTuple [.loc n] S = (rdOf S (.loc n)).bind fun xs => some (.tup xs, S) := (rfl)
@[simp] theorem ev_listT {xs : List D} : nList [.tup xs] S = some (xs, S) := (rfl)
@[simp] theorem ev_listL {xs : List D} : nList [.lst xs] S = some (xs, S) := (rfl)
@[simp] theorem ev_sortedL {xs : List D} : nSorted [.lst xs] S = (intsOf xs).bind fun ns => some ((ns.mergeSort (fun a b => decide (a ≤ b))).map .int, S) := (rfl)
@[simp] theorem ev_srcT {xs : List D} : srcOf S (.tup xs) = some ⟨xs, []⟩ := (rfl)
@[simp] theorem ev_srcL {xs : List D} : srcOf S (.lst xs) = some ⟨xs, []⟩ := (rfl)
@[simp] theorem ev_rdL {xs : List D} : rdOf S (.lst xs) = some xs := (rfl)
@[simp] theorem ev_lstL {xs : List D} : lstOf S (.lst xs) = some xs := (rfl)
@[simp] theorem ev_ok0 {xs : List D} : Src.ok ⟨xs, []⟩ S ↔ True := by simp [Src.ok]
@[simp] theorem ev_ok1 {xs : List D} {n : Nat} {c : Cell} : Src.ok ⟨xs, [(n, c)]⟩ S ↔ S[n]? = some c := by simp [Src.ok]
@[simp] theorem ev_tyN : tyN S .non = some "NoneType" := (rfl)
@[simp] theorem ev_tyB {b : Bool} : tyN S (.bl b) = some "bool" := (rfl)
@[simp] theorem ev_tyI {b : Int} : tyN S (.int b) = some "int" := (rfl)
@[simp] theorem ev_tyS {b : Str} : tyN S (.str b) = some "str" := (rfl)
@[simp] theorem ev_tyT {b : List D} : tyN S (.tup b) = some "tuple" := (rfl)
@[simp] theorem ev_tyL {b : List D} : tyN S (.lst b) = some "list" := (rfl)
@[simp] theorem ev_kit_ii : kitB "int" "int" = some true := kit_ii
@[simp] theorem ev_kit_ib : kitB "int" "bool" = some false := kit_ib
@[simp] theorem ev_kit_is : kitB "int" "str" = some false := kit_is
@[simp] theorem ev_kit_it : kitB "int" "tuple" = some false := kit_it
@[simp] theorem ev_kit_il : kitB "int" "list" = some false := kit_il
@[simp] theorem ev_kit_bi : kitB "bool" "int" = some true := kit_bi
@[simp] theorem ev_kit_bb : kitB "bool" "bool" = some true := kit_bb
@[simp] theorem ev_kit_bs : kitB "bool" "str" = some false := kit_bs
@[simp] theorem ev_kit_bt : kitB "bool" "tuple" = some false := kit_bt
@[simp] theorem ev_kit_bl : kitB "bool" "list" = some false := kit_bl
@[simp] theorem ev_kit_ni : kitB "NoneType" "int" = some false := kit_ni
@[simp] theorem ev_kit_nb : kitB "NoneType" "bool" = some false := kit_nb
@[simp] theorem ev_kit_ns : kitB "NoneType" "str" = some false := kit_ns
@[simp] theorem ev_kit_nt : kitB "NoneType" "tuple" = some false := kit_nt
@[simp] theorem ev_kit_nl : kitB "NoneType" "list" = some false := kit_nl
@[simp] theorem ev_kit_si : kitB "str" "int" = some false := kit_si
@[simp] theorem ev_kit_sb : kitB "str" "bool" = some false := kit_sb
@[simp] theorem ev_kit_ss : kitB "str" "str" = some true := kit_ss
@[simp] theorem ev_kit_st : kitB "str" "tuple" = some false := kit_st
@[simp] theorem ev_kit_sl : kitB "str" "list" = some false := kit_sl
@[simp] theorem ev_kit_ti : kitB "tuple" "int" = some false := kit_ti
@[simp] theorem ev_kit_tb : kitB "tuple" "bool" = some false := kit_tb
@[simp] theorem ev_kit_ts : kitB "tuple" "str" = some false := kit_ts
@[simp] theorem ev_kit_tt : kitB "tuple" "tuple" = some true := kit_tt
@[simp] theorem ev_kit_tl : kitB "tuple" "list" = some false := kit_tl
@[simp] theorem ev_kit_li : kitB "list" "int" = some false := kit_li
@[simp] theorem ev_kit_lb : kitB "list" "bool" = some false := kit_lb
@[simp] theorem ev_kit_ls : kitB "list" "str" = some false := kit_ls
@[simp] theorem ev_kit_lt : kitB "list" "tuple" = some false := kit_lt
@[simp] theorem ev_kit_ll : kitB "list" "list" = some true := kit_ll
@[simp] theorem ev_isNN : isD .non .non = some true := (rfl)
@[simp] theorem ev_isNB {b : Bool} : isD (.bl b) .non = some false := (rfl)
@[simp] theorem ev_isNI {b : Int} : isD (.int b) .non = some false := (rfl)
@[simp] theorem ev_isNS {b : Str} : isD (.str b) .non = some false := (rfl)
@[simp] theorem ev_isNT {b : List D} : isD (.tup b) .non = some false := (rfl)
@[simp] theorem ev_isNL {b : List D} : isD (.lst b) .non = some false := (rfl)
@[simp] theorem ev_isNO {b : List (Str × D)} {c : Str} : isD (.obj c b) .non = some false := (rfl)
@[simp] theorem ev_isNC {b : Nat} : isD (.loc b) .non = some false := (rfl)
@[simp] theorem ev_isBB {b k : Bool} : isD (.bl b) (.bl k) = some (decide (b = k)) := (rfl)
@[simp] theorem ev_isBN {k : Bool} : isD .non (.bl k) = some false := (rfl)
@[simp] theorem ev_isBI {b : Int} {k : Bool} : isD (.int b) (.bl k) = some false := (rfl)
@[simp] theorem ev_isBS {b : Str} {k : Bool} : isD (.str b) (.bl k) = some false := (rfl)
@[simp] theorem ev_isBT {b : List D} {k : Bool} : isD (.tup b) (.bl k) = some false := (rfl)
@[simp] theorem ev_isBL {b : List D} {k : Bool} : isD (.lst b) (.bl k) = some false := (rfl)
end
section
variable {S : Store} {n : Nat}
theorem rd_loc {xs : List D} (h : S[n]? = some (.lst xs)) : rdOf S (.loc n) = some xs := by unfold rdOf; simp [h]
theorem lst_loc {xs : List D} (h : S[n]? = some (.lst xs)) : lstOf S (.loc n) = some xs := by unfold lstOf; simp [h]
theorem src_loc {xs : List D} (h : S[n]? = some (.lst xs)) : srcOf S (.loc n) = some ⟨xs, [(n, .lst xs)]⟩ := by unfold srcOf; simp [h]
theorem locOf_loc {xs : List D} (h : S[n]? = some (.lst xs)) : locOf S (.loc n) = some (n, xs) := by unfold locOf; simp [h]
theorem ins_loc {c : Str} {fs : List (Str × D)} (h : S[n]? = some (.ins c fs)) : insOf S (.loc n) = some (c, fs) := by unfold insOf; simp [h]
end
theorem rk_nat {n : Nat} (h : n ≤ 1000000) : rngOk (n : Int) := ⟨by omega, by omega⟩
theorem rk_1 : rngOk 1 := ⟨by decide, by decide⟩
theorem rk_succ {n : Nat} (h : n < 1000000) : rngOk ((n : Int) + 1) := ⟨by omega, by omega⟩
/-! ### texts, fields -/
@[simp] theorem ofString_inj {s t : String} : Str.ofString s = Str.ofString t ↔ s = t := by
  refine ⟨fun h => ?_, fun h => by rw [h]⟩
  rw [Str.ofString_eq_toList, Str.ofString_eq_toList] at h
  have h1 : s.toList.map Char.toNat = t.toList.map Char.toNat := by
    have := congrArg (fun z : Str => z.cps.toList) h
    simpa using this
  have h2 : s.toList = t.toList := (List.map_inj_right fun a b e => Char.ext (by
    have : a.val.toNat = b.val.toNat := e
    exact UInt32.toNat_inj.mp this)).mp h1
  exact String.toList_inj.mp h2
@[simp] theorem lk_nil {x : Str} : ([] : List (Str × D)).lookup x = none := (rfl)
@[simp] theorem lk_cons {x y : Str} {d : D} {r : List (Str × D)} : ((y, d) :: r).lookup x = if x = y then some d else r.lookup x := by
  rw [List.lookup_cons]
  by_cases h : x = y
  · subst h; simp
  · have : (x == y) = false := by simpa using h
    rw [this, if_neg h]
@[simp] theorem putD_nil {x : Str} {d : D} : putD x d [] = [(x, d)] := (rfl)
@[simp] theorem putD_cons {x y : Str} {d z : D} {r : List (Str × D)} : putD x d ((y, z) :: r) = if y = x then (y, d) :: r else (y, z) :: putD x d r := (rfl)
/-! ### numbers -/
@[simp] theorem log2_0 : Nat.log2 0 = 0 := by decide +kernel
@[simp] theorem log2_1 : Nat.log2 1 = 0 := by decide +kernel
theorem log2_le {n k : Nat} (h : n < 2 ^ k) : n.log2 ≤ k := by
  by_cases h0 : n = 0
  · subst h0; rw [log2_0]; exact Nat.zero_le _
  · exact Nat.le_of_lt ((Nat.log2_lt h0).mpr h)
theorem mul_ok {S : Store} {i j : Int} (a b : Nat) (hi : i.natAbs < 2 ^ a) (hj : j.natAbs < 2 ^ b) (hab : a + b < 1000000) : opMul (.int i) (.int j) S = some (.int (i * j), S) := by
  rw [ev_mul, if_pos]
  have := log2_le hi
  have := log2_le hj
  omega
theorem fdiv_ok {S : Store} {i j : Int} (b : Nat) (h0 : 0 < j) (hj : j.natAbs < 2 ^ b) (hb : b < 9000) : opFdiv (.int i) (.int j) S = some (.int (i / j), S) := by
  rw [ev_fdiv, if_pos]
  exact ⟨h0, Nat.lt_of_le_of_lt (log2_le hj) hb⟩
/-! ### subscripts -/
theorem atI_nat {xs : List D} {i : Nat} {d : D} (h : xs[i]? = some d) : atI xs (i : Int) = some d := by
  obtain ⟨hi, e⟩ := List.getElem?_eq_some_iff.mp h
  unfold atI ixN
  simp [hi, e]
theorem intsOf_map' (ns : List Int) : intsOf (ns.map .int) = some ns := intsOf_map ns

theorem blsOf_map' {α : Type} (f : α → Bool) : ∀ xs : List α, blsOf (xs.map fun x => .bl (f x)) = some (xs.map f)
  | [] => rfl
  | x :: xs => by
    show (blsOf (xs.map fun x => .bl (f x))).bind (fun l => some (f x :: l)) = _
    rw [blsOf_map' f xs]; rfl
theorem intsOf_mapf {α : Type} (f : α → Int) : ∀ xs : List α, intsOf (xs.map fun x => .int (f x)) = some (xs.map f)
  | [] => rfl
  | x :: xs => by
    show (intsOf (xs.map fun x => .int (f x))).bind (fun l => some (f x :: l)) = _
    rw [intsOf_mapf f xs]; rfl
theorem enumD_eq : ∀ (ds : List D) (i : Nat), enumD i ds = (ds.zipIdx i).map fun p => .tup [.int (p.2 : Nat), p.1]
  | [], i => rfl
  | d :: ds, i => by
    unfold enumD
    rw [List.zipIdx_cons, List.map_cons, enumD_eq ds (i + 1)]
theorem rngD_eq {lo : Int} {n : Nat} : rngD lo n = (List.range n).map fun i => .int (lo + (i : Nat)) := (rfl)

/-! ### loops -/
theorem comp_map {α : Type} {ok : Store → Prop} {tg : GF} {c : TF} {elt : EF} {ρ : Env} {S : Store} (enc : α → D) (p : α → Bool) (f : α → D) (hok : ok S) :
    ∀ (xs : List α), (∀ x ∈ xs, ∃ ρ', tg (enc x) ρ S = some (ρ', S) ∧ c ρ' S = some (p x, S) ∧ (p x = true → elt ρ' S = some (f x, S))) →
      compGo ok tg c elt ρ (xs.map enc) S = some ((xs.filter p).map f, S)
  | [], _ => by simp [compGo, hok]
  | x :: xs, h => by
    obtain ⟨ρ', h1, h2, h3⟩ := h x List.mem_cons_self
    have ih := comp_map enc p f hok xs fun y hy => h y (List.mem_cons_of_mem _ hy)
    simp only [List.map_cons]
    unfold compGo
    cases hp : p x with
    | true => simp [hok, h1, h2, hp, h3 hp, ih]
    | false => simp [hok, h1, h2, hp, ih]
theorem comp_mapT {α : Type} {ok : Store → Prop} {tg : GF} {elt : EF} {ρ : Env} {S : Store} (enc : α → D) (f : α → D) (hok : ok S) (xs : List α) (h : ∀ x ∈ xs, ∃ ρ', tg (enc x) ρ S = some (ρ', S) ∧ elt ρ' S = some (f x, S)) :
    compGo ok tg tTrue elt ρ (xs.map enc) S = some (xs.map f, S) := by
  have := comp_map (ok := ok) (tg := tg) (c := tTrue) (elt := elt) (ρ := ρ) (S := S) enc (fun _ => true) f hok xs fun x hx => by
    obtain ⟨ρ', h1, h2⟩ := h x hx
    exact ⟨ρ', h1, rfl, fun _ => h2⟩
  rw [this]
  have e : xs.filter (fun _ => true) = xs := List.filter_eq_self.mpr fun _ _ => rfl
  rw [e]
/-- only the cells in X (and new ones) changed -/
structure Chg (X : List Nat) (S S' : Store) : Prop where
  le : S.length ≤ S'.length
  at_ : ∀ m, m < S.length → m ∉ X → S'[m]? = S[m]?
theorem Chg.refl {X : List Nat} {S : Store} : Chg X S S := ⟨Nat.le_refl _, fun _ _ _ => rfl⟩
theorem Chg.set {X : List Nat} {S : Store} {n : Nat} {c : Cell} (h : n ∈ X) : Chg X S (S.set n c) := ⟨by simp, fun m _ hm => List.getElem?_set_ne (by rintro rfl; exact hm h)⟩
theorem Chg.add {X : List Nat} {S S' : Store} : Chg X S (S ++ S') := ⟨by simp, fun m h _ => List.getElem?_append_left h⟩
theorem Chg.trans {X Y : List Nat} {S S1 S2 : Store} (a : Chg X S S1) (b : Chg Y S1 S2) (h : ∀ m, m < S.length → m ∈ Y → m ∈ X) : Chg X S S2 :=
  ⟨Nat.le_trans a.le b.le, fun m hm hx => (b.at_ m (Nat.lt_of_lt_of_le hm a.le) fun hy => hx (h m hm hy)).trans (a.at_ m hm hx)⟩
theorem Chg.app {X Y : List Nat} {S S1 S2 : Store} (a : Chg X S S1) (b : Chg Y S1 S2) : Chg (X ++ Y) S S2 :=
  ⟨Nat.le_trans a.le b.le, fun m hm hx => (b.at_ m (Nat.lt_of_lt_of_le hm a.le) fun hy => hx (List.mem_append_right _ hy)).trans (a.at_ m hm fun hy => hx (List.mem_append_left _ hy))⟩
theorem Chg.push {X : List Nat} {S S' l : Store} (c : Chg X S S') : Chg X S (S' ++ l) :=
  ⟨by have := c.le; simp; omega, fun m hm hx => (List.getElem?_append_left (Nat.lt_of_lt_of_le hm c.le)).trans (c.at_ m hm hx)⟩
theorem Chg.wr {X : List Nat} {S S' : Store} {n : Nat} {e : Cell} (c : Chg X S S') (h : n ∈ X ∨ S.length ≤ n) : Chg X S (S'.set n e) :=
  ⟨by have := c.le; simpa using this, fun m hm hx => (List.getElem?_set_ne (by rintro rfl; rcases h with h | h; exact hx h; omega)).trans (c.at_ m hm hx)⟩
theorem Chg.mono {X Y : List Nat} {S S' : Store} (a : Chg X S S') (h : ∀ m, m ∈ X → m ∈ Y) : Chg Y S S' := ⟨a.le, fun m hm hy => a.at_ m hm fun hx => hy (h m hx)⟩
theorem Chg.get {X : List Nat} {S S' : Store} {m : Nat} {c : Cell} (a : Chg X S S') (h : S[m]? = some c) (hx : m ∉ X) : S'[m]? = some c := (a.at_ m (List.getElem?_eq_some_iff.mp h).1 hx).trans h
theorem lt_of_get {S : Store} {m : Nat} {c : Cell} (h : S[m]? = some c) : m < S.length := (List.getElem?_eq_some_iff.mp h).1
/-- a loop: R before each turn and after the last, or a return with Q -/
theorem for_ex {ok : Store → Prop} {tg : GF} {body : SF} (R : Nat → Env → Store → Prop) (Q : D → Env → Store → Prop) (T : Fl × Env × Store → Prop) :
    ∀ (n : Nat) (xs : List D) (i : Nat) (ρ : Env) (S : Store), xs.length = n → R i ρ S →
      (∀ (j : Nat) (x : D) (ρ : Env) (S : Store), xs[j]? = some x → R (i + j) ρ S → ok S ∧ Ok (tg x ρ S) fun a => Ok (body a.1 a.2) fun r => match r.1 with
        | .nx => R (i + j + 1) r.2.1 r.2.2
        | .ct => R (i + j + 1) r.2.1 r.2.2
        | .bk => T (.nx, r.2.1, r.2.2)
        | .rt d => T (.rt d, r.2.1, r.2.2)) →
      (∀ ρ S, R (i + n) ρ S → ok S ∧ T (.nx, ρ, S)) →
      Ok (forGo ok tg body xs ρ S) T
  | 0, [], i, ρ, S, _, h, _, he => by
    obtain ⟨h1, h2⟩ := he ρ S h
    unfold forGo
    rw [if_pos h1]
    exact ⟨_, rfl, h2⟩
  | n + 1, x :: xs, i, ρ, S, hl, h, hs, he => by
    obtain ⟨h1, a, e1, r, e2, h2⟩ := hs 0 x ρ S rfl h
    unfold forGo
    rw [if_pos h1, e1, Option.bind_some, e2, Option.bind_some]
    obtain ⟨fl, ρ1, S1⟩ := r
    have next : R (i + 1) ρ1 S1 → Ok (forGo ok tg body xs ρ1 S1) T := fun h3 =>
      for_ex R Q T n xs (i + 1) ρ1 S1 (by simpa using hl) h3 (fun j x ρ S e h => by
        have := hs (j + 1) x ρ S (by simpa using e) (by rw [show i + (j + 1) = i + 1 + j by omega]; exact h)
        rw [show i + (j + 1) + 1 = i + 1 + j + 1 by omega] at this
        exact this) (fun ρ S h => he ρ S (by rw [show i + (n + 1) = i + 1 + n by omega]; exact h))
    cases fl with
    | nx => exact next h2
    | ct => exact next h2
    | bk => exact ⟨_, rfl, h2⟩
    | rt d => exact ⟨_, rfl, h2⟩
theorem for_ex0 {ok : Store → Prop} {tg : GF} {body : SF} {xs : List D} {ρ : Env} {S : Store} (R : Nat → Env → Store → Prop) (T : Fl × Env × Store → Prop) (h0 : R 0 ρ S)
    (hs : ∀ (j : Nat) (x : D) (ρ : Env) (S : Store), xs[j]? = some x → R j ρ S → ok S ∧ Ok (tg x ρ S) fun a => Ok (body a.1 a.2) fun r => match r.1 with
        | .nx => R (j + 1) r.2.1 r.2.2
        | .ct => R (j + 1) r.2.1 r.2.2
        | .bk => T (.nx, r.2.1, r.2.2)
        | .rt d => T (.rt d, r.2.1, r.2.2))
    (he : ∀ ρ S, R xs.length ρ S → ok S ∧ T (.nx, ρ, S)) : Ok (forGo ok tg body xs ρ S) T :=
  for_ex R (fun _ _ _ => True) T xs.length xs 0 ρ S rfl h0 (fun j x ρ S e h => by
    rw [Nat.zero_add] at h ⊢
    exact hs j x ρ S e h) fun ρ S h => he ρ S (by rw [Nat.zero_add] at h; exact h)
theorem map_at {α : Type} {f : α → D} {xs : List α} {t : Nat} {x : D} (h : (xs.map f)[t]? = some x) : ∃ y, xs[t]? = some y ∧ x = f y := by
  rw [List.getElem?_map] at h
  obtain ⟨y, e1, e2⟩ := Option.map_eq_some_iff.mp h
  exact ⟨y, e1, e2.symm⟩
end DZ

/-! DzO: equality and membership of plain data (no bool, nothing mutable). -/
namespace DZ
open PySem PySem.Spec PyProof.Rows L2
open Classical

theorem strOk_of {s : String} : PyData.strOk (Str.ofString s) = true := by
  rw [Str.ofString_eq_toList]
  unfold PyData.strOk
  simp only [Array.all_eq_true']
  intro n hn
  simp only [List.mem_toArray, List.mem_map] at hn
  obtain ⟨c, _, rfl⟩ := hn
  have := c.valid
  simp only [decide_eq_true_eq]
  show c.val.toNat < _
  rcases this with h | h
  · exact Nat.lt_trans h (by decide)
  · exact h.2
def pl : Nat → D → Bool
  | _, .non => true
  | _, .int _ => true
  | _, .str x => PyData.strOk x
  | k + 1, .tup xs => xs.all (pl k)
  | k + 1, .lst xs => xs.all (pl k)
  | _, _ => false
theorem pl_py : ∀ (k : Nat) (d : D), pl k d = true → ∃ x, D.py d = some x ∧ x.canLay0 = true ∧ x.depth ≤ k
  | k, .non, _ => ⟨.none, by simp [D.py], by simp [PyData.canLay0], by simp [PyData.depth]⟩
  | k, .int i, _ => ⟨.int i, by simp [D.py], by simp [PyData.canLay0], by simp [PyData.depth]⟩
  | k, .str x, h => ⟨.str x, by simp [D.py], by
      have h' : PyData.strOk x = true := by unfold pl at h; exact h
      simp [PyData.canLay0, h'], by simp [PyData.depth]⟩
  | k, .bl _, h => by cases k <;> simp [pl] at h
  | k, .scr _, h => by cases k <;> simp [pl] at h
  | k, .obj _ _, h => by cases k <;> simp [pl] at h
  | k, .loc _, h => by cases k <;> simp [pl] at h
  | 0, .tup xs, h => by simp [pl] at h
  | 0, .lst xs, h => by simp [pl] at h
  | k + 1, .tup xs, h => by
    have h' : xs.all (pl k) = true := h
    obtain ⟨ys, e1, e2, e3⟩ := go k xs h'
    exact ⟨.tuple ys, by simp [D.py, e1], by simp [PyData.canLay0, e2], by simp [PyData.depth, e3]⟩
  | k + 1, .lst xs, h => by
    have h' : xs.all (pl k) = true := h
    obtain ⟨ys, e1, e2, e3⟩ := go k xs h'
    exact ⟨.list ys, by simp [D.py, e1], by simp [PyData.canLay0, e2], by simp [PyData.depth, e3]⟩
where
  go : ∀ (k : Nat) (xs : List D), xs.all (pl k) = true → ∃ ys, D.pyAll xs = some ys ∧ PyData.canLayAll0 ys = true ∧ PyData.depthAll ys ≤ k
  | k, [], _ => ⟨[], by simp [D.pyAll], by simp [PyData.canLayAll0], by simp [PyData.depthAll]⟩
  | k, d :: xs, h => by
    simp only [List.all_cons, Bool.and_eq_true] at h
    obtain ⟨x, e1, e2, e3⟩ := pl_py k d h.1
    obtain ⟨ys, f1, f2, f3⟩ := go k xs h.2
    exact ⟨x :: ys, by simp [D.pyAll, e1, f1], by simp [PyData.canLayAll0, e2, f2], by simp [PyData.depthAll]; omega⟩
theorem pl_eqv : ∀ (k : Nat) (a b : D) (x y : PyData), pl k a = true → pl k b = true → D.py a = some x → D.py b = some y → (PyData.eqv x y = true ↔ a = b) := by
  intro k
  induction k with
  | zero =>
    intro a b x y ha hb ex ey
    cases a <;> simp [pl] at ha <;> cases b <;> simp [pl] at hb <;> simp [D.py] at ex ey <;> subst ex ey <;> simp [PyData.eqv]
  | succ k ih =>
    have go : ∀ (xs ys : List D) (us vs : List PyData), xs.all (pl k) = true → ys.all (pl k) = true → D.pyAll xs = some us → D.pyAll ys = some vs → (PyData.eqvAll us vs = true ↔ xs = ys) := by
      intro xs
      induction xs with
      | nil =>
        intro ys us vs _ _ e1 e2
        simp [D.pyAll] at e1
        subst e1
        cases ys with
        | nil => simp [D.pyAll] at e2; subst e2; simp [PyData.eqvAll]
        | cons y ys =>
          simp only [D.pyAll] at e2
          obtain ⟨a, _, e2⟩ := obind e2
          obtain ⟨b, _, e2⟩ := obind e2
          cases e2
          simp [PyData.eqvAll]
      | cons x xs ih2 =>
        intro ys us vs h1 h2 e1 e2
        simp only [List.all_cons, Bool.and_eq_true] at h1
        simp only [D.pyAll] at e1
        obtain ⟨a, ea, e1⟩ := obind e1
        obtain ⟨b, eb, e1⟩ := obind e1
        cases e1
        cases ys with
        | nil => simp [D.pyAll] at e2; subst e2; simp [PyData.eqvAll]
        | cons y ys =>
          simp only [List.all_cons, Bool.and_eq_true] at h2
          simp only [D.pyAll] at e2
          obtain ⟨a', ea', e2⟩ := obind e2
          obtain ⟨b', eb', e2⟩ := obind e2
          cases e2
          simp only [PyData.eqvAll, Bool.and_eq_true, List.cons.injEq]
          rw [ih x y a a' h1.1 h2.1 ea ea', ih2 ys b b' h1.2 h2.2 eb eb']
    intro a b x y ha hb ex ey
    cases a with
    | tup xs =>
      obtain ⟨us, e1, rfl⟩ := Option.map_eq_some_iff.mp (show (D.pyAll xs).map PyData.tuple = some x by simpa [D.py] using ex)
      cases b with
      | tup ys =>
        obtain ⟨vs, e2, rfl⟩ := Option.map_eq_some_iff.mp (show (D.pyAll ys).map PyData.tuple = some y by simpa [D.py] using ey)
        simp only [PyData.eqv, D.tup.injEq]
        exact go xs ys us vs ha hb e1 e2
      | lst ys =>
        obtain ⟨vs, e2, rfl⟩ := Option.map_eq_some_iff.mp (show (D.pyAll ys).map PyData.list = some y by simpa [D.py] using ey)
        simp [PyData.eqv]
      | non => simp [D.py] at ey; subst ey; simp [PyData.eqv]
      | int _ => simp [D.py] at ey; subst ey; simp [PyData.eqv]
      | str _ => simp [D.py] at ey; subst ey; simp [PyData.eqv]
      | _ => simp [pl] at hb
    | lst xs =>
      obtain ⟨us, e1, rfl⟩ := Option.map_eq_some_iff.mp (show (D.pyAll xs).map PyData.list = some x by simpa [D.py] using ex)
      cases b with
      | lst ys =>
        obtain ⟨vs, e2, rfl⟩ := Option.map_eq_some_iff.mp (show (D.pyAll ys).map PyData.list = some y by simpa [D.py] using ey)
        simp only [PyData.eqv, D.lst.injEq]
        exact go xs ys us vs ha hb e1 e2
      | tup ys =>
        obtain ⟨vs, e2, rfl⟩ := Option.map_eq_some_iff.mp (show (D.pyAll ys).map PyData.tuple = some y by simpa [D.py] using ey)
        simp [PyData.eqv]
      | non => simp [D.py] at ey; subst ey; simp [PyData.eqv]
      | int _ => simp [D.py] at ey; subst ey; simp [PyData.eqv]
      | str _ => simp [D.py] at ey; subst ey; simp [PyData.eqv]
      | _ => simp [pl] at hb
    | non =>
      simp [D.py] at ex; subst ex
      cases b with
      | tup ys =>
        obtain ⟨vs, e2, rfl⟩ := Option.map_eq_some_iff.mp (show (D.pyAll ys).map PyData.tuple = some y by simpa [D.py] using ey)
        simp [PyData.eqv]
      | lst ys =>
        obtain ⟨vs, e2, rfl⟩ := Option.map_eq_some_iff.mp (show (D.pyAll ys).map PyData.list = some y by simpa [D.py] using ey)
        simp [PyData.eqv]
      | non => simp [D.py] at ey; subst ey; simp [PyData.eqv]
      | int _ => simp [D.py] at ey; subst ey; simp [PyData.eqv]
      | str _ => simp [D.py] at ey; subst ey; simp [PyData.eqv]
      | _ => simp [pl] at hb
    | int i =>
      simp [D.py] at ex; subst ex
      cases b with
      | tup ys =>
        obtain ⟨vs, e2, rfl⟩ := Option.map_eq_some_iff.mp (show (D.pyAll ys).map PyData.tuple = some y by simpa [D.py] using ey)
        simp [PyData.eqv]
      | lst ys =>
        obtain ⟨vs, e2, rfl⟩ := Option.map_eq_some_iff.mp (show (D.pyAll ys).map PyData.list = some y by simpa [D.py] using ey)
        simp [PyData.eqv]
      | non => simp [D.py] at ey; subst ey; simp [PyData.eqv]
      | int _ => simp [D.py] at ey; subst ey; simp [PyData.eqv]
      | str _ => simp [D.py] at ey; subst ey; simp [PyData.eqv]
      | _ => simp [pl] at hb
    | str i =>
      simp [D.py] at ex; subst ex
      cases b with
      | tup ys =>
        obtain ⟨vs, e2, rfl⟩ := Option.map_eq_some_iff.mp (show (D.pyAll ys).map PyData.tuple = some y by simpa [D.py] using ey)
        simp [PyData.eqv]
      | lst ys =>
        obtain ⟨vs, e2, rfl⟩ := Option.map_eq_some_iff.mp (show (D.pyAll ys).map PyData.list = some y by simpa [D.py] using ey)
        simp [PyData.eqv]
      | non => simp [D.py] at ey; subst ey; simp [PyData.eqv]
      | int _ => simp [D.py] at ey; subst ey; simp [PyData.eqv]
      | str _ => simp [D.py] at ey; subst ey; simp [PyData.eqv]
      | _ => simp [pl] at hb
    | _ => simp [pl] at ha
theorem pl_pyOf {S : Store} {k : Nat} {a : D} (h : pl k a = true) : pyOf S a = D.py a := by
  cases a with
  | loc _ => cases k <;> simp [pl] at h
  | _ => rfl
theorem shaped_of {x : PyData} (h1 : x.canLay0 = true) (h2 : x.depth ≤ 64) : SeqAt.shaped x = true := by
  unfold SeqAt.shaped
  simp [h1, h2]
section
variable {S : Store} {a b : D} {xs : List D} {n : Nat}
theorem eq_pl (ha : pl 60 a = true) (hb : pl 60 b = true) : eqD S a b = some (decide (a = b)) := by
  obtain ⟨x, e1, c1, d1⟩ := pl_py 60 a ha
  obtain ⟨y, e2, c2, d2⟩ := pl_py 60 b hb
  have key := pl_eqv 60 a b x y ha hb e1 e2
  unfold eqD
  split
  · simp
  · simp
  · rw [pl_pyOf ha, pl_pyOf hb, e1, e2]
    simp only [Option.bind_some]
    rw [if_pos ⟨shaped_of c1 (by omega), shaped_of c2 (by omega)⟩]
    congr 1
    rw [Bool.eq_iff_iff, key, decide_eq_true_iff]
theorem any_pl {k : Nat} {x : PyData} (ha : pl k a = true) (e : D.py a = some x) : ∀ (xs : List D) (ys : List PyData), xs.all (pl k) = true → D.pyAll xs = some ys → (ys.any (fun z => PyData.eqv z x) = decide (a ∈ xs))
  | [], ys, _, e2 => by simp [D.pyAll] at e2; subst e2; simp
  | d :: xs, ys, h, e2 => by
    simp only [List.all_cons, Bool.and_eq_true] at h
    simp only [D.pyAll] at e2
    obtain ⟨z, e3, e2⟩ := obind e2
    obtain ⟨zs, e4, e2⟩ := obind e2
    cases e2
    rw [List.any_cons, any_pl ha e xs zs h.2 e4]
    have key := pl_eqv k d a z x h.1 ha e3 e
    rw [Bool.eq_iff_iff]
    simp only [Bool.or_eq_true, decide_eq_true_eq, List.mem_cons, key]
    exact ⟨fun h => h.imp Eq.symm id, fun h => h.imp Eq.symm id⟩
theorem in_plL (ha : pl 60 a = true) (hb : xs.all (pl 60) = true) : inD S a (.lst xs) = some (decide (a ∈ xs)) := by
  obtain ⟨x, e1, c1, d1⟩ := pl_py 60 a ha
  obtain ⟨ys, e2, c2, d2⟩ := pl_py.go 60 xs hb
  unfold inD
  rw [pl_pyOf ha, e1, show pyOf S (.lst xs) = some (.list ys) by simp [pyOf, D.py, e2]]
  simp only [Option.bind_some]
  rw [if_pos ⟨shaped_of c1 (by omega), shaped_of (x := .list ys) (by simp [PyData.canLay0, c2]) (by simp [PyData.depth]; omega)⟩, any_pl ha e1 xs ys hb e2]
theorem in_plT (ha : pl 60 a = true) (hb : xs.all (pl 60) = true) : inD S a (.tup xs) = some (decide (a ∈ xs)) := by
  obtain ⟨x, e1, c1, d1⟩ := pl_py 60 a ha
  obtain ⟨ys, e2, c2, d2⟩ := pl_py.go 60 xs hb
  unfold inD
  rw [pl_pyOf ha, e1, show pyOf S (.tup xs) = some (.tuple ys) by simp [pyOf, D.py, e2]]
  simp only [Option.bind_some]
  rw [if_pos ⟨shaped_of c1 (by omega), shaped_of (x := .tuple ys) (by simp [PyData.canLay0, c2]) (by simp [PyData.depth]; omega)⟩, any_pl ha e1 xs ys hb e2]
theorem in_plC (h : S[n]? = some (.lst xs)) (ha : pl 60 a = true) (hb : xs.all (pl 60) = true) : inD S a (.loc n) = some (decide (a ∈ xs)) := by
  obtain ⟨x, e1, c1, d1⟩ := pl_py 60 a ha
  obtain ⟨ys, e2, c2, d2⟩ := pl_py.go 60 xs hb
  unfold inD
  rw [pl_pyOf ha, e1, show pyOf S (.loc n) = some (.list ys) by simp [pyOf, h, e2]]
  simp only [Option.bind_some]
  rw [if_pos ⟨shaped_of c1 (by omega), shaped_of (x := .list ys) (by simp [PyData.canLay0, c2]) (by simp [PyData.depth]; omega)⟩, any_pl ha e1 xs ys hb e2]
/-- by an injective reading -/
theorem in_enc {α : Type} [DecidableEq α] {enc : α → D} {p : α} {l : List α} (hi : ∀ a b, enc a = enc b → a = b) : (decide (enc p ∈ l.map enc)) = decide (p ∈ l) := by
  rw [decide_eq_decide]
  simp only [List.mem_map]
  exact ⟨fun ⟨q, h, e⟩ => by rw [← hi _ _ e]; exact h, fun h => ⟨p, h, rfl⟩⟩
theorem all_pl {α : Type} {enc : α → D} {l : List α} (h : ∀ a ∈ l, pl 60 (enc a) = true) : (l.map enc).all (pl 60) = true := by
  rw [List.all_map, List.all_eq_true]
  exact h
theorem in_ints {l : List Int} {p : Int} : inD S (.int p) (.lst (l.map .int)) = some (decide (p ∈ l)) := by
  rw [in_plL rfl (all_pl fun _ _ => rfl), in_enc fun a b e => by injection e]
theorem in_intsC {l : List Int} {p : Int} (h : S[n]? = some (.lst (l.map .int))) : inD S (.int p) (.loc n) = some (decide (p ∈ l)) := by
  rw [in_plC h rfl (all_pl fun _ _ => rfl), in_enc fun a b e => by injection e]
theorem in_intsT {l : List Int} {p : Int} : inD S (.int p) (.tup (l.map .int)) = some (decide (p ∈ l)) := by
  rw [in_plT rfl (all_pl fun _ _ => rfl), in_enc fun a b e => by injection e]
end
/-! ### sorting that computes -/
def ins1 (a : Int) : List Int → List Int
  | [] => [a]
  | b :: l => if a ≤ b then a :: b :: l else b :: ins1 a l
def isort : List Int → List Int
  | [] => []
  | a :: l => ins1 a (isort l)
theorem ins1_perm (a : Int) : ∀ l, (ins1 a l).Perm (a :: l)
  | [] => List.Perm.refl _
  | b :: l => by
    unfold ins1
    split
    · exact List.Perm.refl _
    · exact ((ins1_perm a l).cons b).trans (List.Perm.swap a b l)
theorem isort_perm : ∀ l, (isort l).Perm l
  | [] => List.Perm.refl _
  | a :: l => (ins1_perm a _).trans ((isort_perm l).cons a)
theorem ins1_sorted (a : Int) : ∀ l : List Int, l.Pairwise (· ≤ ·) → (ins1 a l).Pairwise (· ≤ ·)
  | [], _ => by simp [ins1]
  | b :: l, h => by
    have h1 := List.pairwise_cons.mp h
    unfold ins1
    split
    · rename_i hab
      refine List.pairwise_cons.mpr ⟨fun x hx => ?_, h⟩
      rcases List.mem_cons.mp hx with rfl | hx
      · exact hab
      · exact Int.le_trans hab (h1.1 x hx)
    · rename_i hab
      refine List.pairwise_cons.mpr ⟨fun x hx => ?_, ins1_sorted a l h1.2⟩
      rcases List.mem_cons.mp ((ins1_perm a l).mem_iff.mp hx) with rfl | hx
      · omega
      · exact h1.1 x hx
theorem isort_sorted : ∀ l, (isort l).Pairwise (· ≤ ·)
  | [] => by simp [isort]
  | a :: l => ins1_sorted a _ (isort_sorted l)
theorem isort_eq (l : List Int) : l.mergeSort (fun a b => decide (a ≤ b)) = isort l :=
  sorted_unique ((List.mergeSort_perm _ _).trans (isort_perm l).symm) (msort_sorted l) (isort_sorted l)
/-! ### what is left behind -/
theorem frz_pl {S : Store} {n0 : Nat} : ∀ (k : Nat) (d : D), pl k d = true → frz S n0 (k + 1) d = some d
  | k, .non, _ => by simp [frz]
  | k, .int _, _ => by simp [frz]
  | k, .str x, h => by simp [frz]
  | k, .bl _, h => by cases k <;> simp [pl] at h
  | k, .scr _, h => by cases k <;> simp [pl] at h
  | k, .obj _ _, h => by cases k <;> simp [pl] at h
  | k, .loc _, h => by cases k <;> simp [pl] at h
  | 0, .tup xs, h => by simp [pl] at h
  | 0, .lst xs, h => by simp [pl] at h
  | k + 1, .tup xs, h => by
    have h' : xs.all (pl k) = true := h
    show (frzL (frz S n0 (k + 1)) xs).map D.tup = _
    rw [go k xs h']; rfl
  | k + 1, .lst xs, h => by
    have h' : xs.all (pl k) = true := h
    show (frzL (frz S n0 (k + 1)) xs).map D.lst = _
    rw [go k xs h']; rfl
where
  go : ∀ (k : Nat) (xs : List D), xs.all (pl k) = true → frzL (frz S n0 (k + 1)) xs = some xs
  | k, [], _ => rfl
  | k, d :: xs, h => by
    simp only [List.all_cons, Bool.and_eq_true] at h
    show (frz S n0 (k + 1) d).bind (fun x => (frzL (frz S n0 (k + 1)) xs).bind fun r => some (x :: r)) = _
    rw [frz_pl k d h.1, go k xs h.2]; rfl
theorem frz_bl {S : Store} {n0 : Nat} {b : Bool} : frz S n0 frzDeep (.bl b) = some (.bl b) := rfl
theorem pl_mono {j k : Nat} : ∀ {d : D}, j ≤ k → pl j d = true → pl k d = true := by
  induction j generalizing k with
  | zero =>
    intro d _ h
    cases d <;> simp [pl] at h <;> cases k <;> simp [pl, h]
  | succ j ih =>
    intro d hk h
    obtain ⟨k, rfl⟩ : ∃ k', k = k' + 1 := ⟨k - 1, by omega⟩
    cases d with
    | tup xs => exact List.all_eq_true.mpr fun x hx => ih (by omega) (List.all_eq_true.mp (show xs.all (pl j) = true from h) x hx)
    | lst xs => exact List.all_eq_true.mpr fun x hx => ih (by omega) (List.all_eq_true.mp (show xs.all (pl j) = true from h) x hx)
    | _ => simp [pl] at h ⊢ <;> exact h
theorem take_chg {S S' : Store} (c : Chg [] S S') : S'.take S.length = S := by
  apply List.ext_getElem?
  intro i
  by_cases hi : i < S.length
  · rw [List.getElem?_take_of_lt hi]; exact c.at_ i hi (by simp)
  · rw [List.getElem?_eq_none (by simp; omega), List.getElem?_eq_none (by omega)]
theorem closed_chg {S S' : Store} (c : Chg [] S S') : Closed S S' := ⟨c.le, fun i hi => .inl (c.at_ i hi (by simp))⟩
/-- a def that leaves the store as it was -/
theorem drop_same {F : FF} {ds : List D} {S : Store} {d : D} (h : Ok (F ds S) fun r => Chg [] S r.2 ∧ frz r.2 S.length frzDeep r.1 = some d) : dropF F ds S = some (d, S) := by
  obtain ⟨⟨x, S'⟩, e, c, f⟩ := h
  unfold dropF
  rw [e, Option.bind_some]
  unfold drop
  rw [if_pos (closed_chg c)]
  simp only [f, Option.bind_some]
  rw [take_chg c]
theorem drop_ok {F : FF} {ds : List D} {S : Store} {T : D × Store → Prop} (h : Ok (F ds S) fun r => Closed S r.2 ∧ ∃ d, frz r.2 S.length frzDeep r.1 = some d ∧ T (d, r.2.take S.length)) : Ok (dropF F ds S) T := by
  obtain ⟨⟨x, S'⟩, e, c, d, f, t⟩ := h
  unfold dropF
  rw [e, Option.bind_some]
  unfold drop
  rw [if_pos c]
  simp only [f, Option.bind_some]
  exact Ok_some.mpr t
theorem enum_at' {α : Type} {f : α → D} {xs : List α} {t : Nat} {x : D} (h : (enumD 0 (xs.map f))[t]? = some x) : ∃ y, xs[t]? = some y ∧ x = .tup [.int (t : Nat), f y] := by
  rw [enumD_eq, List.getElem?_map, List.getElem?_zipIdx, List.getElem?_map] at h
  cases hy : xs[t]? with
  | none => rw [hy] at h; simp at h
  | some y =>
    rw [hy] at h
    simp at h
    exact ⟨y, rfl, h.symm⟩
theorem foldl_take {α β : Type} {f : β → α → β} {b : β} {xs : List α} {t : Nat} {x : α} (h : xs[t]? = some x) : (xs.take (t + 1)).foldl f b = f ((xs.take t).foldl f b) x := by
  rw [List.take_succ, h]
  simp [List.foldl_append]
theorem map_take {α β : Type} {f : α → β} {xs : List α} {t : Nat} {x : α} (h : xs[t]? = some x) : (xs.take (t + 1)).map f = (xs.take t).map f ++ [f x] := by
  rw [List.take_succ, h]
  simp
theorem set_last {S : Store} {c e : Cell} : (S ++ [c]).set S.length e = S ++ [e] := by simp
end DZ

/-! DzP: comprehensions that change the store; dicts; locks. -/
namespace DZ
open PySem PySem.Spec PyProof.Rows L2
open Classical
theorem comp_ex {ok : Store → Prop} {tg : GF} {c : TF} {elt : EF} {ρ : Env} {T : List D × Store → Prop} (R : Nat → List D → Store → Prop) :
    ∀ (xs : List D) (i : Nat) (acc : List D) (S : Store), R i acc S →
      (∀ (j : Nat) (x : D) (acc : List D) (S : Store), xs[j]? = some x → R (i + j) acc S → ok S ∧ Ok (tg x ρ S) fun a => Ok (c a.1 a.2) fun b => if b.1 = true then Ok (elt a.1 b.2) fun y => R (i + j + 1) (acc ++ [y.1]) y.2 else R (i + j + 1) acc b.2) →
      (∀ acc S, R (i + xs.length) acc S → ok S ∧ T (acc, S)) →
      Ok (compGo ok tg c elt ρ xs S) fun r => T (acc ++ r.1, r.2)
  | [], i, acc, S, h, _, he => by
    obtain ⟨h1, h2⟩ := he acc S h
    unfold compGo
    rw [if_pos h1]
    exact ⟨_, rfl, by simpa using h2⟩
  | x :: xs, i, acc, S, h, hs, he => by
    obtain ⟨h1, a, e1, b, e2, h2⟩ := hs 0 x acc S rfl h
    unfold compGo
    rw [if_pos h1, e1, Option.bind_some, e2, Option.bind_some]
    have hs' : ∀ (j : Nat) (x : D) (acc : List D) (S : Store), xs[j]? = some x → R (i + 1 + j) acc S → ok S ∧ Ok (tg x ρ S) fun a => Ok (c a.1 a.2) fun b => if b.1 = true then Ok (elt a.1 b.2) fun y => R (i + 1 + j + 1) (acc ++ [y.1]) y.2 else R (i + 1 + j + 1) acc b.2 := fun j x acc S e h => by
      have := hs (j + 1) x acc S (by simpa using e) (by rw [show i + (j + 1) = i + 1 + j by omega]; exact h)
      rw [show i + (j + 1) + 1 = i + 1 + j + 1 by omega] at this
      exact this
    have he' : ∀ acc S, R (i + 1 + xs.length) acc S → ok S ∧ T (acc, S) := fun acc S h => he acc S (by rw [List.length_cons, show i + (xs.length + 1) = i + 1 + xs.length by omega]; exact h)
    by_cases hb : b.1 = true
    · rw [if_pos hb] at h2 ⊢
      obtain ⟨y, e3, h3⟩ := h2
      rw [e3, Option.bind_some]
      obtain ⟨q, e4, h4⟩ := comp_ex R xs (i + 1) (acc ++ [y.1]) y.2 h3 hs' he'
      rw [e4, Option.bind_some]
      exact ⟨_, rfl, by simpa using h4⟩
    · rw [if_neg hb] at h2 ⊢
      exact comp_ex R xs (i + 1) acc b.2 h2 hs' he'
theorem comp_ex0 {ok : Store → Prop} {tg : GF} {c : TF} {elt : EF} {ρ : Env} {T : List D × Store → Prop} {xs : List D} {S : Store} (R : Nat → List D → Store → Prop) (h0 : R 0 [] S)
    (hs : ∀ (j : Nat) (x : D) (acc : List D) (S : Store), xs[j]? = some x → R j acc S → ok S ∧ Ok (tg x ρ S) fun a => Ok (c a.1 a.2) fun b => if b.1 = true then Ok (elt a.1 b.2) fun y => R (j + 1) (acc ++ [y.1]) y.2 else R (j + 1) acc b.2)
    (he : ∀ acc S, R xs.length acc S → ok S ∧ T (acc, S)) : Ok (compGo ok tg c elt ρ xs S) T := by
  have := comp_ex (T := T) R xs 0 [] S h0 (fun j x acc S e h => by rw [Nat.zero_add] at h ⊢; exact hs j x acc S e h) (fun acc S h => he acc S (by rw [Nat.zero_add] at h; exact h))
  simpa using this
theorem seqIx_nat {n i : Nat} (h : i < n) : seqIndex? (i : Int) n = some i := by
  unfold seqIndex?
  have h1 : ¬ ((i : Int) < 0) := by omega
  have h2 : (0 : Int) ≤ (i : Int) ∧ (i : Int) < (n : Int) := by omega
  simp [h1, h2, h]
theorem lt63a {i : Nat} : (-(2 ^ 63) : Int) ≤ (i : Int) := Int.le_trans (show (-(2 ^ 63) : Int) ≤ 0 by decide +kernel) (by omega)
theorem lt63b {i : Nat} (hb : i < 1000000) : (i : Int) < 2 ^ 63 := Int.lt_of_lt_of_le (show (i : Int) < 1000000 by omega) (by decide +kernel)
theorem popAt_eq {S : Store} {n : Nat} {i : Int} {xs : List D} (h : S[n]? = some (.lst xs)) (b : -(2 ^ 63) ≤ i ∧ i < 2 ^ 63) : mPopAt (.loc n) [.int i] S = (seqIndex? i xs.length).bind fun j => (xs[j]?).bind fun d => some (d, S.set n (.lst (xs.eraseIdx j))) := by
  unfold mPopAt
  rw [locOf_loc h]
  exact if_pos b
theorem popAt_ok {S : Store} {n i : Nat} {xs : List D} {d : D} (h : S[n]? = some (.lst xs)) (hi : xs[i]? = some d) (hb : i < 1000000) : mPopAt (.loc n) [.int (i : Nat)] S = some (d, S.set n (.lst (xs.eraseIdx i))) := by
  have hl := (List.getElem?_eq_some_iff.mp hi).1
  rw [popAt_eq h ⟨lt63a, lt63b hb⟩, seqIx_nat hl, Option.bind_some, hi, Option.bind_some]
theorem append_ok {S : Store} {n : Nat} {xs : List D} {d : D} (h : S[n]? = some (.lst xs)) (hb : xs.length < 1000000) : mAppend (.loc n) [d] S = some (.non, S.set n (.lst (xs ++ [d]))) := by
  unfold mAppend
  rw [locOf_loc h]
  simp only [Option.bind_some]
  rw [if_pos hb]
section
variable {ρ : Env} {S : Store} {d x : D} {fo fk fx f : EF} {n : Nat}
@[simp] theorem ev_dget : eDGet fo fk ρ S = (fo ρ S).bind fun r => (fk ρ r.2).bind fun q => (dctOf q.2 r.1).bind fun z => (keyOfD q.1).bind fun k => (getKD z.2 k).bind fun d => some (d, q.2) := (rfl)
@[simp] theorem ev_lock : eLock fo f ρ S = (fo ρ S).bind fun r => (dctOf r.2 r.1).bind fun z => (f ρ (r.2.set z.1 (.lck z.2))).bind fun q => match q.2[z.1]? with
  | some (.lck kvs) => some (q.1, q.2.set z.1 (.dct kvs))
  | _ => none := (rfl)
@[simp] theorem ev_ival : iVal fo ρ S = (fo ρ S).bind fun r => (lckOf r.2 r.1).bind fun z => some (⟨z.2.map (·.2), [(z.1, .lck z.2)]⟩, r.2) := (rfl)
@[simp] theorem key_int {i : Int} : keyOfD (.int i) = some (.inl i) := (rfl)
@[simp] theorem key_str {i : Str} : keyOfD (.str i) = some (.inr i) := (rfl)
theorem dct_loc {kvs : List (Key × D)} (h : S[n]? = some (.dct kvs)) : dctOf S (.loc n) = some (n, kvs) := by unfold dctOf; simp [h]
theorem lck_loc {kvs : List (Key × D)} (h : S[n]? = some (.lck kvs)) : lckOf S (.loc n) = some (n, kvs) := by unfold lckOf; simp [h]
theorem dsetd_old {kvs : List (Key × D)} {k : Key} {S1 : Store} (h1 : fo ρ S = some (.loc n, S)) (h2 : fk ρ S = some (d, S)) (h3 : fx ρ S = some (x, S1)) (hk : keyOfD d = some k) (h4 : S[n]? = some (.dct kvs)) (h5 : S1[n]? = some (.dct kvs)) (hl : kvs.length < 1000000) {e : D} (hg : getKD kvs k = some e) : eDSetd fo fk fx ρ S = some (e, S1) := by
  unfold eDSetd
  rw [h1, Option.bind_some, h2, Option.bind_some, h3, Option.bind_some, dct_loc h4, Option.bind_some, dct_loc h5, Option.bind_some, hk, Option.bind_some, if_pos hl, hg]
theorem dsetd_new {kvs : List (Key × D)} {k : Key} {S1 : Store} (h1 : fo ρ S = some (.loc n, S)) (h2 : fk ρ S = some (d, S)) (h3 : fx ρ S = some (x, S1)) (hk : keyOfD d = some k) (h4 : S[n]? = some (.dct kvs)) (h5 : S1[n]? = some (.dct kvs)) (hl : kvs.length < 1000000) (hg : getKD kvs k = none) : eDSetd fo fk fx ρ S = some (x, S1.set n (.dct (putKD kvs k x))) := by
  unfold eDSetd
  rw [h1, Option.bind_some, h2, Option.bind_some, h3, Option.bind_some, dct_loc h4, Option.bind_some, dct_loc h5, Option.bind_some, hk, Option.bind_some, if_pos hl, hg]
theorem getKD_none {kvs : List (Key × D)} {k : Key} : getKD kvs k = none ↔ ∀ q ∈ kvs, q.1 ≠ k := by
  unfold getKD
  simp
theorem getKD_some {kvs : List (Key × D)} {k : Key} {e : D} (h : getKD kvs k = some e) : (k, e) ∈ kvs := by
  unfold getKD at h
  obtain ⟨q, h1, h2⟩ := Option.map_eq_some_iff.mp h
  have h3 := List.find?_some h1
  have h4 := List.mem_of_find?_eq_some h1
  simp only [decide_eq_true_eq] at h3
  rw [← h2, ← h3]
  exact h4
theorem putKD_new {kvs : List (Key × D)} {k : Key} {e : D} (h : getKD kvs k = none) : putKD kvs k e = kvs ++ [(k, e)] := by
  unfold putKD
  rw [if_neg]
  have := getKD_none.mp h
  simp only [List.any_eq_true, decide_eq_true_eq, not_exists, not_and]
  exact fun q hq => this q hq
end
theorem nodup_inj {α β : Type} {f : α → β} : ∀ {l : List α} {a b : α}, (l.map f).Nodup → a ∈ l → b ∈ l → f a = f b → a = b
  | [], _, _, _, h, _, _ => by simp at h
  | x :: l, a, b, nd, ha, hb, e => by
    rw [List.map_cons, List.nodup_cons] at nd
    rcases List.mem_cons.mp ha with ea | ha'
    · rcases List.mem_cons.mp hb with eb | hb'
      · rw [ea, eb]
      · exact absurd (List.mem_map.mpr ⟨b, hb', by rw [← ea, e]⟩) nd.1
    · rcases List.mem_cons.mp hb with eb | hb'
      · exact absurd (List.mem_map.mpr ⟨a, ha', by rw [← eb, e]⟩) nd.1
      · exact nodup_inj nd.2 ha' hb' e
theorem map_eraseIdx {α β : Type} {f : α → β} : ∀ {l : List α} {i : Nat}, (l.map f).eraseIdx i = (l.eraseIdx i).map f
  | [], _ => rfl
  | _ :: _, 0 => rfl
  | a :: l, i + 1 => by
    rw [List.map_cons, List.eraseIdx_cons_succ, List.eraseIdx_cons_succ, List.map_cons, map_eraseIdx]
theorem eraseIdx_perm {α : Type} : ∀ {l : List α} {i : Nat} (h : i < l.length), (l[i] :: l.eraseIdx i).Perm l
  | a :: l, 0, _ => List.Perm.refl _
  | a :: l, i + 1, h => by
    rw [List.eraseIdx_cons_succ, List.getElem_cons_succ]
    exact (List.Perm.swap _ _ _).trans ((eraseIdx_perm (by simpa using h)).cons a)
theorem for_ok {iF : IF} {tg : GF} {s : SF} {ρ : Env} {S S1 : Store} {src : Src} {T : Fl × Env × Store → Prop} (hi : iF ρ S = some (src, S1)) (h : Ok (forGo src.ok tg s src.items ρ S1) T) : Ok (sFor iF tg s ρ S) T := by
  rw [ev_sfor, hi]
  exact h
theorem rng_at {n t : Nat} {x : D} (h : (rngD 0 n)[t]? = some x) : t < n ∧ x = .int (t : Nat) := by
  rw [rngD_eq] at h
  obtain ⟨y, e1, rfl⟩ := map_at h
  obtain ⟨h1, h2⟩ := List.getElem?_eq_some_iff.mp e1
  rw [List.getElem_range] at h2
  subst h2
  exact ⟨by simpa using h1, by simp⟩
theorem rng_len {n : Nat} {lo : Int} : (rngD lo n).length = n := by simp [rngD]
theorem seq_ex {s s' : SF} {ρ : Env} {S : Store} {T : Fl × Env × Store → Prop} (P : Env → Store → Prop) (h1 : Ok (s ρ S) fun r => r.1 = .nx ∧ P r.2.1 r.2.2) (h2 : ∀ ρ' S', P ρ' S' → Ok (s' ρ' S') T) : Ok (sSeq s s' ρ S) T := by
  obtain ⟨⟨f, ρ', S'⟩, e, rfl, h⟩ := h1
  unfold sSeq
  rw [e]
  exact h2 _ _ h
theorem seq_nx {s s' : SF} {ρ ρ1 : Env} {S S1 : Store} (h : s ρ S = some (.nx, ρ1, S1)) : sSeq s s' ρ S = s' ρ1 S1 := by
  unfold sSeq
  rw [h]
  rfl
end DZ

namespace W95
open PySem PySem.Spec PyProof.Rows L2 DZ
def top (i : Nat) : Stmt := PySem.Challenge.pw_keysapart_k95_whole_what_disks_keep_coun.main.body.getD i (.Pass ⟨0, 0, 0, 0⟩)
def cs : List Str := ["Disk", "Ledge", "PlanFault"]
abbrev s0 : Stmt := top 5
def d0 : He.DefD := ⟨("is_integer", none), "is_integer", "is_integer", defArgs s0, defBody s0, defScope s0, [], []⟩
abbrev s1 : Stmt := top 6
def d1 : He.DefD := ⟨("is_number", none), "is_number", "is_number", defArgs s1, defBody s1, defScope s1, [.non], []⟩
abbrev s2 : Stmt := top 7
def d2 : He.DefD := ⟨("is_ascending", none), "is_ascending", "is_ascending", defArgs s2, defBody s2, defScope s2, [], []⟩
abbrev s3 : Stmt := inClass (top 11) 0
def d3 : He.DefD := ⟨("Disk", some "__init__"), "__init__", "Disk.__init__", defArgs s3, defBody s3, defScope s3, [], []⟩
abbrev s4 : Stmt := inClass (top 11) 1
def d4 : He.DefD := ⟨("Disk", some "size"), "size", "Disk.size", defArgs s4, defBody s4, defScope s4, [], []⟩
abbrev s5 : Stmt := inClass (top 11) 2
def d5 : He.DefD := ⟨("Disk", some "safe"), "safe", "Disk.safe", defArgs s5, defBody s5, defScope s5, [], []⟩
abbrev s6 : Stmt := inClass (top 11) 3
def d6 : He.DefD := ⟨("Disk", some "waits"), "waits", "Disk.waits", defArgs s6, defBody s6, defScope s6, [], []⟩
abbrev s7 : Stmt := inClass (top 11) 4
def d7 : He.DefD := ⟨("Disk", some "put"), "put", "Disk.put", defArgs s7, defBody s7, defScope s7, [], []⟩
abbrev s8 : Stmt := inClass (top 11) 5
def d8 : He.DefD := ⟨("Disk", some "read"), "read", "Disk.read", defArgs s8, defBody s8, defScope s8, [], []⟩
abbrev s9 : Stmt := inClass (top 11) 6
def d9 : He.DefD := ⟨("Disk", some "lay"), "lay", "Disk.lay", defArgs s9, defBody s9, defScope s9, [], []⟩
abbrev s10 : Stmt := inClass (top 11) 7
def d10 : He.DefD := ⟨("Disk", some "flush"), "flush", "Disk.flush", defArgs s10, defBody s10, defScope s10, [], []⟩
abbrev s11 : Stmt := inClass (top 11) 8
def d11 : He.DefD := ⟨("Disk", some "is_lot_of_puts"), "is_lot_of_puts", "Disk.is_lot_of_puts", defArgs s11, defBody s11, defScope s11, [], []⟩
abbrev s12 : Stmt := inClass (top 11) 9
def d12 : He.DefD := ⟨("Disk", some "fall"), "fall", "Disk.fall", defArgs s12, defBody s12, defScope s12, [], []⟩
abbrev s13 : Stmt := inClass (top 11) 10
def d13 : He.DefD := ⟨("Disk", some "look"), "look", "Disk.look", defArgs s13, defBody s13, defScope s13, [], []⟩
abbrev s14 : Stmt := inClass (top 11) 11
def d14 : He.DefD := ⟨("Disk", some "shows"), "shows", "Disk.shows", defArgs s14, defBody s14, defScope s14, [], []⟩
abbrev s15 : Stmt := inClass (top 16) 0
def d15 : He.DefD := ⟨("Ledge", some "__init__"), "__init__", "Ledge.__init__", defArgs s15, defBody s15, defScope s15, [], []⟩
abbrev s16 : Stmt := inClass (top 16) 1
def d16 : He.DefD := ⟨("Ledge", some "may"), "may", "Ledge.may", defArgs s16, defBody s16, defScope s16, [], []⟩
abbrev s17 : Stmt := inClass (top 16) 2
def d17 : He.DefD := ⟨("Ledge", some "take"), "take", "Ledge.take", defArgs s17, defBody s17, defScope s17, [], []⟩
abbrev s18 : Stmt := inClass (top 16) 3
def d18 : He.DefD := ⟨("Ledge", some "is_sure"), "is_sure", "Ledge.is_sure", defArgs s18, defBody s18, defScope s18, [], []⟩
abbrev s19 : Stmt := inClass (top 16) 4
def d19 : He.DefD := ⟨("Ledge", some "fault"), "fault", "Ledge.fault", defArgs s19, defBody s19, defScope s19, [], []⟩
abbrev s20 : Stmt := top 17
def d20 : He.DefD := ⟨("is_plan", none), "is_plan", "is_plan", defArgs s20, defBody s20, defScope s20, [], []⟩
abbrev s21 : Stmt := inClass (top 18) 0
def d21 : He.DefD := ⟨("PlanFault", some "__init__"), "__init__", "PlanFault.__init__", defArgs s21, defBody s21, defScope s21, [], []⟩
abbrev s22 : Stmt := top 19
def d22 : He.DefD := ⟨("plan_fault", none), "plan_fault", "plan_fault", defArgs s22, defBody s22, defScope s22, [], []⟩
abbrev s23 : Stmt := top 20
def d23 : He.DefD := ⟨("flushes_in", none), "flushes_in", "flushes_in", defArgs s23, defBody s23, defScope s23, [], []⟩
abbrev s24 : Stmt := top 21
def d24 : He.DefD := ⟨("prompt_plan", none), "prompt_plan", "prompt_plan", defArgs s24, defBody s24, defScope s24, [], []⟩
abbrev s25 : Stmt := top 22
def d25 : He.DefD := ⟨("lagging_plan", none), "lagging_plan", "lagging_plan", defArgs s25, defBody s25, defScope s25, [], []⟩
abbrev s26 : Stmt := top 23
def d26 : He.DefD := ⟨("dealing_plan", none), "dealing_plan", "dealing_plan", defArgs s26, defBody s26, defScope s26, [], []⟩
abbrev s27 : Stmt := top 25
def d27 : He.DefD := ⟨("pens_from", none), "pens_from", "pens_from", defArgs s27, defBody s27, defScope s27, [], []⟩
abbrev s28 : Stmt := top 26
def d28 : He.DefD := ⟨("counts_at", none), "counts_at", "counts_at", defArgs s28, defBody s28, defScope s28, [], []⟩
abbrev s29 : Stmt := top 27
def d29 : He.DefD := ⟨("kept", none), "kept", "kept", defArgs s29, defBody s29, defScope s29, [], []⟩
abbrev s30 : Stmt := top 28
def d30 : He.DefD := ⟨("counted_long", none), "counted_long", "counted_long", defArgs s30, defBody s30, defScope s30, [], []⟩
abbrev s31 : Stmt := top 29
def d31 : He.DefD := ⟨("is_spread", none), "is_spread", "is_spread", defArgs s31, defBody s31, defScope s31, [], []⟩
abbrev s32 : Stmt := top 30
def d32 : He.DefD := ⟨("most_counted", none), "most_counted", "most_counted", defArgs s32, defBody s32, defScope s32, [], []⟩
abbrev s33 : Stmt := top 31
def d33 : He.DefD := ⟨("kept_copies", none), "kept_copies", "kept_copies", defArgs s33, defBody s33, defScope s33, [.bl false], []⟩
abbrev s34 : Stmt := top 33
def d34 : He.DefD := ⟨("_law_take", none), "_law_take", "_law_take", defArgs s34, defBody s34, defScope s34, [], []⟩
abbrev s35 : Stmt := top 34
def d35 : He.DefD := ⟨("_law_pick", none), "_law_pick", "_law_pick", defArgs s35, defBody s35, defScope s35, [], []⟩
abbrev s36 : Stmt := top 35
def d36 : He.DefD := ⟨("_law_part", none), "_law_part", "_law_part", defArgs s36, defBody s36, defScope s36, [], []⟩
abbrev s37 : Stmt := top 36
def d37 : He.DefD := ⟨("_law_box", none), "_law_box", "_law_box", defArgs s37, defBody s37, defScope s37, [], []⟩
abbrev s38 : Stmt := top 37
def d38 : He.DefD := ⟨("_law_same", none), "_law_same", "_law_same", defArgs s38, defBody s38, defScope s38, [], []⟩
abbrev s39 : Stmt := top 38
def d39 : He.DefD := ⟨("_law_newest", none), "_law_newest", "_law_newest", defArgs s39, defBody s39, defScope s39, [], []⟩
abbrev s40 : Stmt := top 39
def d40 : He.DefD := ⟨("_law_pages", none), "_law_pages", "_law_pages", defArgs s40, defBody s40, defScope s40, [], []⟩
abbrev s41 : Stmt := top 40
def d41 : He.DefD := ⟨("_law_run", none), "_law_run", "_law_run", defArgs s41, defBody s41, defScope s41, [], []⟩
abbrev s42 : Stmt := top 41
def d42 : He.DefD := ⟨("_law_cut", none), "_law_cut", "_law_cut", defArgs s42, defBody s42, defScope s42, [], []⟩
abbrev s43 : Stmt := top 42
def d43 : He.DefD := ⟨("_law_kept", none), "_law_kept", "_law_kept", defArgs s43, defBody s43, defScope s43, [], []⟩
abbrev s44 : Stmt := top 43
def d44 : He.DefD := ⟨("_law_added", none), "_law_added", "_law_added", defArgs s44, defBody s44, defScope s44, [], []⟩
abbrev s45 : Stmt := top 44
def d45 : He.DefD := ⟨("_law_crews", none), "_law_crews", "_law_crews", defArgs s45, defBody s45, defScope s45, [], []⟩
abbrev s46 : Stmt := top 45
def d46 : He.DefD := ⟨("law", none), "law", "law", defArgs s46, defBody s46, defScope s46, [], []⟩
def fn_0 : List He.DefD := [d0, d1, d2, d3, d4, d5, d6, d7, d8, d9, d10, d11, d12, d13, d14, d15, d16, d17, d18, d19, d20, d21, d22, d23, d24, d25, d26, d27, d28, d29]
def fn_1 : List He.DefD := [d30, d31, d32, d33, d34, d35, d36, d37, d38, d39, d40, d41, d42, d43, d44, d45, d46]
def fn : List He.DefD := fn_0 ++ fn_1
def fa_0 : List He.Fa := [.free "isinstance", .free "int", .free "bool", .free "len", .free "range", .free "all", .int "MOST_SLOTS" 400, .cls "Disk", .noat "Disk" "cells", .noat "Disk" "traces", .noat "Disk" "queue", .free "tuple", .free "any", .free "enumerate", .glo "TORN", .cls "Ledge", .noat "Ledge" "disk", .noat "Ledge" "needed", .noat "Ledge" "gone", .free "str", .int "MOST_PAGE" 1000, .int "BLANK" 1000, .free "min", .int "MOST_STEPS" 200, .cls "PlanFault", .noat "PlanFault" "cut", .noat "PlanFault" "torn", .noat "PlanFault" "word", .noat "PlanFault" "page", .free "max"]
def fa_1 : List He.Fa := [.free "list", .free "sorted", .free "abs", .free "set", .glo "is_integer", .glo "is_number", .glo "is_ascending", .mkr "Disk", .glo "Disk", .meth "Disk" "size", .meth "Disk" "safe", .meth "Disk" "waits", .meth "Disk" "put", .meth "Disk" "read", .meth "Disk" "lay", .meth "Disk" "flush", .meth "Disk" "is_lot_of_puts", .meth "Disk" "fall", .meth "Disk" "look", .meth "Disk" "shows", .mkr "Ledge", .glo "Ledge", .meth "Ledge" "may", .meth "Ledge" "take", .meth "Ledge" "is_sure", .meth "Ledge" "fault", .glo "is_plan", .mkr "PlanFault", .glo "PlanFault", .glo "plan_fault"]
def fa_2 : List He.Fa := [.glo "flushes_in", .glo "prompt_plan", .glo "lagging_plan", .glo "dealing_plan", .glo "pens_from", .glo "counts_at", .glo "kept", .glo "counted_long", .glo "is_spread", .glo "most_counted", .glo "kept_copies", .glo "_law_take", .glo "_law_pick", .glo "_law_part", .glo "_law_box", .glo "_law_same", .glo "_law_newest", .glo "_law_pages", .glo "_law_run", .glo "_law_cut", .glo "_law_kept", .glo "_law_added", .glo "_law_crews", .glo "law"]
def fa : List He.Fa := fa_0 ++ fa_1 ++ fa_2
def ex (K : PySem.W.Frag) : Bool := (He.tupB K "TORN" [.str "torn"]) && (true)
theorem ex_0 {K : PySem.W.Frag} (h : ex K = true) : He.tupB K "TORN" [.str "torn"] = true := (He.ba h).1
theorem fr_isinstance {K : PySem.W.Frag} {h : Heap} {mg : Str → Option Value} (KX : K.In h) (G : h.Ns mainGlobals mg) (c : He.SaysD fa fn K) : mg "isinstance" = none := He.free_ok KX G (c.fact 0 (f := .free "isinstance") rfl)
theorem fr_int {K : PySem.W.Frag} {h : Heap} {mg : Str → Option Value} (KX : K.In h) (G : h.Ns mainGlobals mg) (c : He.SaysD fa fn K) : mg "int" = none := He.free_ok KX G (c.fact 1 (f := .free "int") rfl)
theorem fr_bool {K : PySem.W.Frag} {h : Heap} {mg : Str → Option Value} (KX : K.In h) (G : h.Ns mainGlobals mg) (c : He.SaysD fa fn K) : mg "bool" = none := He.free_ok KX G (c.fact 2 (f := .free "bool") rfl)
theorem fr_len {K : PySem.W.Frag} {h : Heap} {mg : Str → Option Value} (KX : K.In h) (G : h.Ns mainGlobals mg) (c : He.SaysD fa fn K) : mg "len" = none := He.free_ok KX G (c.fact 3 (f := .free "len") rfl)
theorem fr_range {K : PySem.W.Frag} {h : Heap} {mg : Str → Option Value} (KX : K.In h) (G : h.Ns mainGlobals mg) (c : He.SaysD fa fn K) : mg "range" = none := He.free_ok KX G (c.fact 4 (f := .free "range") rfl)
theorem fr_all {K : PySem.W.Frag} {h : Heap} {mg : Str → Option Value} (KX : K.In h) (G : h.Ns mainGlobals mg) (c : He.SaysD fa fn K) : mg "all" = none := He.free_ok KX G (c.fact 5 (f := .free "all") rfl)
theorem gc_MOST_SLOTS {K : PySem.W.Frag} {h : Heap} {mg : Str → Option Value} {g : Gx} (KX : K.In h) (G : h.Ns mainGlobals mg) (c : He.SaysD fa fn K) : ∃ u v, mg "MOST_SLOTS" = some u ∧ RelV v u ∧ ∀ w H, RepV g w H (.int 400) v := gl_int (He.int_ok KX G (c.fact 6 (f := .int "MOST_SLOTS" 400) rfl))
theorem fo_cells {X : Cx} (c : He.SaysD fa fn X.K) : FldOk X (clsOf X.K cs) ["Disk"] "cells" := (fld_cons (by decide) (He.cls_ok (c.fact 7 (f := .cls "Disk") rfl)) (He.noat_ok (c.fact 8 (f := .noat "Disk" "cells") rfl)) fld_nil)
theorem fo_traces {X : Cx} (c : He.SaysD fa fn X.K) : FldOk X (clsOf X.K cs) ["Disk"] "traces" := (fld_cons (by decide) (He.cls_ok (c.fact 7 (f := .cls "Disk") rfl)) (He.noat_ok (c.fact 9 (f := .noat "Disk" "traces") rfl)) fld_nil)
theorem fo_queue {X : Cx} (c : He.SaysD fa fn X.K) : FldOk X (clsOf X.K cs) ["Disk"] "queue" := (fld_cons (by decide) (He.cls_ok (c.fact 7 (f := .cls "Disk") rfl)) (He.noat_ok (c.fact 10 (f := .noat "Disk" "queue") rfl)) fld_nil)
theorem fr_tuple {K : PySem.W.Frag} {h : Heap} {mg : Str → Option Value} (KX : K.In h) (G : h.Ns mainGlobals mg) (c : He.SaysD fa fn K) : mg "tuple" = none := He.free_ok KX G (c.fact 11 (f := .free "tuple") rfl)
theorem fr_any {K : PySem.W.Frag} {h : Heap} {mg : Str → Option Value} (KX : K.In h) (G : h.Ns mainGlobals mg) (c : He.SaysD fa fn K) : mg "any" = none := He.free_ok KX G (c.fact 12 (f := .free "any") rfl)
theorem fr_enumerate {K : PySem.W.Frag} {h : Heap} {mg : Str → Option Value} (KX : K.In h) (G : h.Ns mainGlobals mg) (c : He.SaysD fa fn K) : mg "enumerate" = none := He.free_ok KX G (c.fact 13 (f := .free "enumerate") rfl)
theorem go_TORN {K : PySem.W.Frag} {h : Heap} {mg : Str → Option Value} (KX : K.In h) (G : h.Ns mainGlobals mg) (c : He.SaysD fa fn K) : mg "TORN" = some (.ref (He.ga K "TORN")) := He.glo_ok KX G (c.fact 14 (f := .glo "TORN") rfl)
theorem gc_TORN {K : PySem.W.Frag} {h : Heap} {mg : Str → Option Value} {cl : Str → Option Addr} (KX : K.In h) (G : h.Ns mainGlobals mg) (c : He.SaysD fa fn K) (he : ex K = true) : ∃ u v, mg "TORN" = some u ∧ RelV v u ∧ ∀ w H, RepV ⟨K, cl⟩ w H (.tup [.str "torn"]) v := gl_tup (go_TORN KX G c) (fun H => He.tupB_ok (ex_0 he) H) (fun w H => by simp [RepVs, RepV, He.Dv.v])
theorem fo_disk {X : Cx} (c : He.SaysD fa fn X.K) : FldOk X (clsOf X.K cs) ["Ledge"] "disk" := (fld_cons (by decide) (He.cls_ok (c.fact 15 (f := .cls "Ledge") rfl)) (He.noat_ok (c.fact 16 (f := .noat "Ledge" "disk") rfl)) fld_nil)
theorem fo_needed {X : Cx} (c : He.SaysD fa fn X.K) : FldOk X (clsOf X.K cs) ["Ledge"] "needed" := (fld_cons (by decide) (He.cls_ok (c.fact 15 (f := .cls "Ledge") rfl)) (He.noat_ok (c.fact 17 (f := .noat "Ledge" "needed") rfl)) fld_nil)
theorem fo_gone {X : Cx} (c : He.SaysD fa fn X.K) : FldOk X (clsOf X.K cs) ["Ledge"] "gone" := (fld_cons (by decide) (He.cls_ok (c.fact 15 (f := .cls "Ledge") rfl)) (He.noat_ok (c.fact 18 (f := .noat "Ledge" "gone") rfl)) fld_nil)
theorem fr_str {K : PySem.W.Frag} {h : Heap} {mg : Str → Option Value} (KX : K.In h) (G : h.Ns mainGlobals mg) (c : He.SaysD fa fn K) : mg "str" = none := He.free_ok KX G (c.fact 19 (f := .free "str") rfl)
theorem gc_MOST_PAGE {K : PySem.W.Frag} {h : Heap} {mg : Str → Option Value} {g : Gx} (KX : K.In h) (G : h.Ns mainGlobals mg) (c : He.SaysD fa fn K) : ∃ u v, mg "MOST_PAGE" = some u ∧ RelV v u ∧ ∀ w H, RepV g w H (.int 1000) v := gl_int (He.int_ok KX G (c.fact 20 (f := .int "MOST_PAGE" 1000) rfl))
theorem gc_BLANK {K : PySem.W.Frag} {h : Heap} {mg : Str → Option Value} {g : Gx} (KX : K.In h) (G : h.Ns mainGlobals mg) (c : He.SaysD fa fn K) : ∃ u v, mg "BLANK" = some u ∧ RelV v u ∧ ∀ w H, RepV g w H (.int 1000) v := gl_int (He.int_ok KX G (c.fact 21 (f := .int "BLANK" 1000) rfl))
theorem fr_min {K : PySem.W.Frag} {h : Heap} {mg : Str → Option Value} (KX : K.In h) (G : h.Ns mainGlobals mg) (c : He.SaysD fa fn K) : mg "min" = none := He.free_ok KX G (c.fact 22 (f := .free "min") rfl)
theorem gc_MOST_STEPS {K : PySem.W.Frag} {h : Heap} {mg : Str → Option Value} {g : Gx} (KX : K.In h) (G : h.Ns mainGlobals mg) (c : He.SaysD fa fn K) : ∃ u v, mg "MOST_STEPS" = some u ∧ RelV v u ∧ ∀ w H, RepV g w H (.int 200) v := gl_int (He.int_ok KX G (c.fact 23 (f := .int "MOST_STEPS" 200) rfl))
theorem fo_cut {X : Cx} (c : He.SaysD fa fn X.K) : FldOk X (clsOf X.K cs) ["PlanFault"] "cut" := (fld_cons (by decide) (He.cls_ok (c.fact 24 (f := .cls "PlanFault") rfl)) (He.noat_ok (c.fact 25 (f := .noat "PlanFault" "cut") rfl)) fld_nil)
theorem fo_torn {X : Cx} (c : He.SaysD fa fn X.K) : FldOk X (clsOf X.K cs) ["PlanFault"] "torn" := (fld_cons (by decide) (He.cls_ok (c.fact 24 (f := .cls "PlanFault") rfl)) (He.noat_ok (c.fact 26 (f := .noat "PlanFault" "torn") rfl)) fld_nil)
theorem fo_word {X : Cx} (c : He.SaysD fa fn X.K) : FldOk X (clsOf X.K cs) ["PlanFault"] "word" := (fld_cons (by decide) (He.cls_ok (c.fact 24 (f := .cls "PlanFault") rfl)) (He.noat_ok (c.fact 27 (f := .noat "PlanFault" "word") rfl)) fld_nil)
theorem fo_page {X : Cx} (c : He.SaysD fa fn X.K) : FldOk X (clsOf X.K cs) ["PlanFault"] "page" := (fld_cons (by decide) (He.cls_ok (c.fact 24 (f := .cls "PlanFault") rfl)) (He.noat_ok (c.fact 28 (f := .noat "PlanFault" "page") rfl)) fld_nil)
theorem fr_max {K : PySem.W.Frag} {h : Heap} {mg : Str → Option Value} (KX : K.In h) (G : h.Ns mainGlobals mg) (c : He.SaysD fa fn K) : mg "max" = none := He.free_ok KX G (c.fact 29 (f := .free "max") rfl)
theorem fr_list {K : PySem.W.Frag} {h : Heap} {mg : Str → Option Value} (KX : K.In h) (G : h.Ns mainGlobals mg) (c : He.SaysD fa fn K) : mg "list" = none := He.free_ok KX G (c.fact 30 (f := .free "list") rfl)
theorem fr_sorted {K : PySem.W.Frag} {h : Heap} {mg : Str → Option Value} (KX : K.In h) (G : h.Ns mainGlobals mg) (c : He.SaysD fa fn K) : mg "sorted" = none := He.free_ok KX G (c.fact 31 (f := .free "sorted") rfl)
theorem fr_abs {K : PySem.W.Frag} {h : Heap} {mg : Str → Option Value} (KX : K.In h) (G : h.Ns mainGlobals mg) (c : He.SaysD fa fn K) : mg "abs" = none := He.free_ok KX G (c.fact 32 (f := .free "abs") rfl)
theorem fr_set {K : PySem.W.Frag} {h : Heap} {mg : Str → Option Value} (KX : K.In h) (G : h.Ns mainGlobals mg) (c : He.SaysD fa fn K) : mg "set" = none := He.free_ok KX G (c.fact 33 (f := .free "set") rfl)
theorem go_is_integer {K : PySem.W.Frag} {h : Heap} {mg : Str → Option Value} (KX : K.In h) (G : h.Ns mainGlobals mg) (c : He.SaysD fa fn K) : mg "is_integer" = some (.ref (He.ga K "is_integer")) := He.glo_ok KX G (c.fact 34 (f := .glo "is_integer") rfl)
theorem go_is_number {K : PySem.W.Frag} {h : Heap} {mg : Str → Option Value} (KX : K.In h) (G : h.Ns mainGlobals mg) (c : He.SaysD fa fn K) : mg "is_number" = some (.ref (He.ga K "is_number")) := He.glo_ok KX G (c.fact 35 (f := .glo "is_number") rfl)
theorem go_is_ascending {K : PySem.W.Frag} {h : Heap} {mg : Str → Option Value} (KX : K.In h) (G : h.Ns mainGlobals mg) (c : He.SaysD fa fn K) : mg "is_ascending" = some (.ref (He.ga K "is_ascending")) := He.glo_ok KX G (c.fact 36 (f := .glo "is_ascending") rfl)
theorem go_Disk {K : PySem.W.Frag} {h : Heap} {mg : Str → Option Value} (KX : K.In h) (G : h.Ns mainGlobals mg) (c : He.SaysD fa fn K) : mg "Disk" = some (.ref (He.ga K "Disk")) := He.glo_ok KX G (c.fact 38 (f := .glo "Disk") rfl)
theorem go_Ledge {K : PySem.W.Frag} {h : Heap} {mg : Str → Option Value} (KX : K.In h) (G : h.Ns mainGlobals mg) (c : He.SaysD fa fn K) : mg "Ledge" = some (.ref (He.ga K "Ledge")) := He.glo_ok KX G (c.fact 51 (f := .glo "Ledge") rfl)
theorem go_is_plan {K : PySem.W.Frag} {h : Heap} {mg : Str → Option Value} (KX : K.In h) (G : h.Ns mainGlobals mg) (c : He.SaysD fa fn K) : mg "is_plan" = some (.ref (He.ga K "is_plan")) := He.glo_ok KX G (c.fact 56 (f := .glo "is_plan") rfl)
theorem go_PlanFault {K : PySem.W.Frag} {h : Heap} {mg : Str → Option Value} (KX : K.In h) (G : h.Ns mainGlobals mg) (c : He.SaysD fa fn K) : mg "PlanFault" = some (.ref (He.ga K "PlanFault")) := He.glo_ok KX G (c.fact 58 (f := .glo "PlanFault") rfl)
theorem go_plan_fault {K : PySem.W.Frag} {h : Heap} {mg : Str → Option Value} (KX : K.In h) (G : h.Ns mainGlobals mg) (c : He.SaysD fa fn K) : mg "plan_fault" = some (.ref (He.ga K "plan_fault")) := He.glo_ok KX G (c.fact 59 (f := .glo "plan_fault") rfl)
theorem go_flushes_in {K : PySem.W.Frag} {h : Heap} {mg : Str → Option Value} (KX : K.In h) (G : h.Ns mainGlobals mg) (c : He.SaysD fa fn K) : mg "flushes_in" = some (.ref (He.ga K "flushes_in")) := He.glo_ok KX G (c.fact 60 (f := .glo "flushes_in") rfl)
theorem go_prompt_plan {K : PySem.W.Frag} {h : Heap} {mg : Str → Option Value} (KX : K.In h) (G : h.Ns mainGlobals mg) (c : He.SaysD fa fn K) : mg "prompt_plan" = some (.ref (He.ga K "prompt_plan")) := He.glo_ok KX G (c.fact 61 (f := .glo "prompt_plan") rfl)
theorem go_lagging_plan {K : PySem.W.Frag} {h : Heap} {mg : Str → Option Value} (KX : K.In h) (G : h.Ns mainGlobals mg) (c : He.SaysD fa fn K) : mg "lagging_plan" = some (.ref (He.ga K "lagging_plan")) := He.glo_ok KX G (c.fact 62 (f := .glo "lagging_plan") rfl)
theorem go_dealing_plan {K : PySem.W.Frag} {h : Heap} {mg : Str → Option Value} (KX : K.In h) (G : h.Ns mainGlobals mg) (c : He.SaysD fa fn K) : mg "dealing_plan" = some (.ref (He.ga K "dealing_plan")) := He.glo_ok KX G (c.fact 63 (f := .glo "dealing_plan") rfl)
theorem go_pens_from {K : PySem.W.Frag} {h : Heap} {mg : Str → Option Value} (KX : K.In h) (G : h.Ns mainGlobals mg) (c : He.SaysD fa fn K) : mg "pens_from" = some (.ref (He.ga K "pens_from")) := He.glo_ok KX G (c.fact 64 (f := .glo "pens_from") rfl)
theorem go_counts_at {K : PySem.W.Frag} {h : Heap} {mg : Str → Option Value} (KX : K.In h) (G : h.Ns mainGlobals mg) (c : He.SaysD fa fn K) : mg "counts_at" = some (.ref (He.ga K "counts_at")) := He.glo_ok KX G (c.fact 65 (f := .glo "counts_at") rfl)
theorem go_kept {K : PySem.W.Frag} {h : Heap} {mg : Str → Option Value} (KX : K.In h) (G : h.Ns mainGlobals mg) (c : He.SaysD fa fn K) : mg "kept" = some (.ref (He.ga K "kept")) := He.glo_ok KX G (c.fact 66 (f := .glo "kept") rfl)
theorem go_counted_long {K : PySem.W.Frag} {h : Heap} {mg : Str → Option Value} (KX : K.In h) (G : h.Ns mainGlobals mg) (c : He.SaysD fa fn K) : mg "counted_long" = some (.ref (He.ga K "counted_long")) := He.glo_ok KX G (c.fact 67 (f := .glo "counted_long") rfl)
theorem go_is_spread {K : PySem.W.Frag} {h : Heap} {mg : Str → Option Value} (KX : K.In h) (G : h.Ns mainGlobals mg) (c : He.SaysD fa fn K) : mg "is_spread" = some (.ref (He.ga K "is_spread")) := He.glo_ok KX G (c.fact 68 (f := .glo "is_spread") rfl)
theorem go_most_counted {K : PySem.W.Frag} {h : Heap} {mg : Str → Option Value} (KX : K.In h) (G : h.Ns mainGlobals mg) (c : He.SaysD fa fn K) : mg "most_counted" = some (.ref (He.ga K "most_counted")) := He.glo_ok KX G (c.fact 69 (f := .glo "most_counted") rfl)
theorem go_kept_copies {K : PySem.W.Frag} {h : Heap} {mg : Str → Option Value} (KX : K.In h) (G : h.Ns mainGlobals mg) (c : He.SaysD fa fn K) : mg "kept_copies" = some (.ref (He.ga K "kept_copies")) := He.glo_ok KX G (c.fact 70 (f := .glo "kept_copies") rfl)
theorem go__law_take {K : PySem.W.Frag} {h : Heap} {mg : Str → Option Value} (KX : K.In h) (G : h.Ns mainGlobals mg) (c : He.SaysD fa fn K) : mg "_law_take" = some (.ref (He.ga K "_law_take")) := He.glo_ok KX G (c.fact 71 (f := .glo "_law_take") rfl)
theorem go__law_pick {K : PySem.W.Frag} {h : Heap} {mg : Str → Option Value} (KX : K.In h) (G : h.Ns mainGlobals mg) (c : He.SaysD fa fn K) : mg "_law_pick" = some (.ref (He.ga K "_law_pick")) := He.glo_ok KX G (c.fact 72 (f := .glo "_law_pick") rfl)
theorem go__law_part {K : PySem.W.Frag} {h : Heap} {mg : Str → Option Value} (KX : K.In h) (G : h.Ns mainGlobals mg) (c : He.SaysD fa fn K) : mg "_law_part" = some (.ref (He.ga K "_law_part")) := He.glo_ok KX G (c.fact 73 (f := .glo "_law_part") rfl)
theorem go__law_box {K : PySem.W.Frag} {h : Heap} {mg : Str → Option Value} (KX : K.In h) (G : h.Ns mainGlobals mg) (c : He.SaysD fa fn K) : mg "_law_box" = some (.ref (He.ga K "_law_box")) := He.glo_ok KX G (c.fact 74 (f := .glo "_law_box") rfl)
theorem go__law_same {K : PySem.W.Frag} {h : Heap} {mg : Str → Option Value} (KX : K.In h) (G : h.Ns mainGlobals mg) (c : He.SaysD fa fn K) : mg "_law_same" = some (.ref (He.ga K "_law_same")) := He.glo_ok KX G (c.fact 75 (f := .glo "_law_same") rfl)
theorem go__law_newest {K : PySem.W.Frag} {h : Heap} {mg : Str → Option Value} (KX : K.In h) (G : h.Ns mainGlobals mg) (c : He.SaysD fa fn K) : mg "_law_newest" = some (.ref (He.ga K "_law_newest")) := He.glo_ok KX G (c.fact 76 (f := .glo "_law_newest") rfl)
theorem go__law_pages {K : PySem.W.Frag} {h : Heap} {mg : Str → Option Value} (KX : K.In h) (G : h.Ns mainGlobals mg) (c : He.SaysD fa fn K) : mg "_law_pages" = some (.ref (He.ga K "_law_pages")) := He.glo_ok KX G (c.fact 77 (f := .glo "_law_pages") rfl)
theorem go__law_run {K : PySem.W.Frag} {h : Heap} {mg : Str → Option Value} (KX : K.In h) (G : h.Ns mainGlobals mg) (c : He.SaysD fa fn K) : mg "_law_run" = some (.ref (He.ga K "_law_run")) := He.glo_ok KX G (c.fact 78 (f := .glo "_law_run") rfl)
theorem go__law_cut {K : PySem.W.Frag} {h : Heap} {mg : Str → Option Value} (KX : K.In h) (G : h.Ns mainGlobals mg) (c : He.SaysD fa fn K) : mg "_law_cut" = some (.ref (He.ga K "_law_cut")) := He.glo_ok KX G (c.fact 79 (f := .glo "_law_cut") rfl)
theorem go__law_kept {K : PySem.W.Frag} {h : Heap} {mg : Str → Option Value} (KX : K.In h) (G : h.Ns mainGlobals mg) (c : He.SaysD fa fn K) : mg "_law_kept" = some (.ref (He.ga K "_law_kept")) := He.glo_ok KX G (c.fact 80 (f := .glo "_law_kept") rfl)
theorem go__law_added {K : PySem.W.Frag} {h : Heap} {mg : Str → Option Value} (KX : K.In h) (G : h.Ns mainGlobals mg) (c : He.SaysD fa fn K) : mg "_law_added" = some (.ref (He.ga K "_law_added")) := He.glo_ok KX G (c.fact 81 (f := .glo "_law_added") rfl)
theorem go__law_crews {K : PySem.W.Frag} {h : Heap} {mg : Str → Option Value} (KX : K.In h) (G : h.Ns mainGlobals mg) (c : He.SaysD fa fn K) : mg "_law_crews" = some (.ref (He.ga K "_law_crews")) := He.glo_ok KX G (c.fact 82 (f := .glo "_law_crews") rfl)
theorem go_law {K : PySem.W.Frag} {h : Heap} {mg : Str → Option Value} (KX : K.In h) (G : h.Ns mainGlobals mg) (c : He.SaysD fa fn K) : mg "law" = some (.ref (He.ga K "law")) := He.glo_ok KX G (c.fact 83 (f := .glo "law") rfl)
/-! is_integer -/
def N_is_integer : List Str := ["value"]
theorem sc_is_integer : FnScope N_is_integer ["value"] (defScope s0) := ⟨rfl, rfl, rfl, by decide +kernel, rfl, by decide +kernel, by decide +kernel⟩
noncomputable def B_is_integer : SF := sRet (eAnd (eIsi "int" (eVar 0)) (eNot (eIsi "bool" (eVar 0))))
noncomputable def F_is_integer : FF := runF 1 B_is_integer
theorem ok_is_integer {P : Program} {w : World} {K : PySem.W.Frag} {h : Heap} {mg : Str → Option Value} {base : Heap} (KX : K.In h) (G : h.Ns mainGlobals mg) (c : He.SaysD fa fn K) (he : ex K = true) : ∃ fd, FunD K "is_integer" "is_integer" (defArgs s0) (defBody s0) (defScope s0) (d0.dvs K) (d0.kws K) (He.fAd K ("is_integer", none)) fd ∧ FnOk P w K mg base CX0 1 (He.fAd K ("is_integer", none)) fd ["value"] (liftSp ⟨K, clsOf K cs⟩ 1 F_is_integer) := by
  obtain ⟨fd, Fd⟩ := c.def_ 0 (d := d0) rfl
  exact ⟨fd, Fd, ok_of (N := N_is_integer) (ps := ["value"]) (F := F_is_integer) (B := B_is_integer) Fd sc_is_integer (fun _ _ _ _ h => h) fun cdv A outer s H E hr => (ss_one (s_ret (d_and (d_isi "int" (d_var 0) (fr_isinstance KX G c) (fr_int KX G c)) (d_one (d_not (d_isi "bool" (d_var 0) (fr_isinstance KX G c) (fr_bool KX G c)))))))⟩
theorem w_is_integer {P : Program} {w : World} {K : PySem.W.Frag} {h : Heap} {mg : Str → Option Value} {base : Heap} (KX : K.In h) (G : h.Ns mainGlobals mg) (c : He.SaysD fa fn K) (he : ex K = true) : Fn P w K mg base (clsOf K cs) 1 "is_integer" 1 F_is_integer := by
  obtain ⟨fd, Fd, hok⟩ := ok_is_integer (P := P) (w := w) (base := base) KX G c he
  exact Fn.of hok (go_is_integer KX G c) Fd.kp (Fd.bindsN fun _ _ _ _ _ _ us hl => match us, hl with | [_], _ => rfl)
/-! is_number -/
def N_is_number : List Str := ["value", "most"]
theorem sc_is_number : FnScope N_is_number ["value", "most"] (defScope s1) := ⟨rfl, rfl, rfl, by decide +kernel, rfl, by decide +kernel, by decide +kernel⟩
noncomputable def B_is_number : SF := sRet (eAnd (eDef 1 F_is_integer (aCons (eVar 0) aNil)) (eAnd (eBin opGe (eVar 0) (eC (.int 0))) (eOr (eBin opIs (eVar 1) (eC .non)) (eBin opLe (eVar 0) (eVar 1)))))
noncomputable def F_is_number : FF := runF 2 B_is_number
theorem ok_is_number {P : Program} {w : World} {K : PySem.W.Frag} {h : Heap} {mg : Str → Option Value} {base : Heap} (KX : K.In h) (G : h.Ns mainGlobals mg) (c : He.SaysD fa fn K) (he : ex K = true) : ∃ fd, FunD K "is_number" "is_number" (defArgs s1) (defBody s1) (defScope s1) (d1.dvs K) (d1.kws K) (He.fAd K ("is_number", none)) fd ∧ FnOk P w K mg base CX0 2 (He.fAd K ("is_number", none)) fd ["value", "most"] (liftSp ⟨K, clsOf K cs⟩ 2 F_is_number) := by
  obtain ⟨fd, Fd⟩ := c.def_ 1 (d := d1) rfl
  exact ⟨fd, Fd, ok_of (N := N_is_number) (ps := ["value", "most"]) (F := F_is_number) (B := B_is_number) Fd sc_is_number (fun _ _ _ _ h => h) fun cdv A outer s H E hr => (ss_one (s_ret (d_and (d_def (w_is_integer KX G c he) hr (d_cons (d_var 0) d_nil)) (d_and (d_cmp o_ge (d_var 0) d_int) (d_one (d_or (d_cmp o_is (d_var 1) d_non) (d_one (d_cmp o_le (d_var 0) (d_var 1)))))))))⟩
theorem w_is_number {P : Program} {w : World} {K : PySem.W.Frag} {h : Heap} {mg : Str → Option Value} {base : Heap} (KX : K.In h) (G : h.Ns mainGlobals mg) (c : He.SaysD fa fn K) (he : ex K = true) : Fn P w K mg base (clsOf K cs) 2 "is_number" 2 F_is_number := by
  obtain ⟨fd, Fd, hok⟩ := ok_is_number (P := P) (w := w) (base := base) KX G c he
  obtain ⟨ds, hv, hb⟩ := (Fd.binds1 (ps := ["value", "most"]) 2 1 (fun z => nomatch z) rfl fun _ _ _ _ _ _ _ us its hl hi => match us, hl, its, hi with | [_, _], _, [_], _ => ⟨_, rfl, rfl⟩)
  have e : ds = [] := by cases (show Vals [] ds from hv); rfl
  subst e
  exact Fn.of hok (go_is_number KX G c) Fd.kp hb
/-! is_ascending -/
def N_is_ascending : List Str := ["row", "at"]
theorem sc_is_ascending : FnScope N_is_ascending ["row"] (defScope s2) := ⟨rfl, rfl, rfl, by decide +kernel, rfl, by decide +kernel, by decide +kernel⟩
noncomputable def B_is_ascending : SF := sRet (eCall bAll (aCons (eFz (aComp (iRg2 (aCons (eC (.int 1)) (aCons (eCall bLen (aCons (eVar 0) aNil)) aNil))) (gVar 1) tTrue (eBin opLt (eBin opIx (eVar 0) (eBin opSub (eVar 1) (eC (.int 1)))) (eBin opIx (eVar 0) (eVar 1))) [1])) aNil))
noncomputable def F_is_ascending : FF := runF 2 B_is_ascending
theorem ok_is_ascending {P : Program} {w : World} {K : PySem.W.Frag} {h : Heap} {mg : Str → Option Value} {base : Heap} (KX : K.In h) (G : h.Ns mainGlobals mg) (c : He.SaysD fa fn K) (he : ex K = true) : ∃ fd, FunD K "is_ascending" "is_ascending" (defArgs s2) (defBody s2) (defScope s2) (d2.dvs K) (d2.kws K) (He.fAd K ("is_ascending", none)) fd ∧ FnOk P w K mg base CX0 1 (He.fAd K ("is_ascending", none)) fd ["row"] (liftSp ⟨K, clsOf K cs⟩ 1 F_is_ascending) := by
  obtain ⟨fd, Fd⟩ := c.def_ 2 (d := d2) rfl
  exact ⟨fd, Fd, ok_of (N := N_is_ascending) (ps := ["row"]) (F := F_is_ascending) (B := B_is_ascending) Fd sc_is_ascending (fun _ _ _ _ h => h) fun cdv A outer s H E hr => (ss_one (s_ret (d_blt (c_all rfl) (fr_all KX G c) (d_cons (d_fz (l_comp [("at", 1)] rfl sc_is_ascending.nd (i_rg2 (fr_range KX G c) (d_cons d_int (d_cons (d_blt c_len (fr_len KX G c) (d_cons (d_var 0) d_nil)) d_nil))) (blkOk_by (own := [("at", 1)]) (N := N_is_ascending) (by kernel_rfl)) (fun _ _ _ _ _ => (v_name 1 sc_is_ascending.nd)) (fun _ _ _ _ _ => ts_nil) (fun _ _ _ _ _ => (d_cmp o_lt (d_ix o_ix (d_var 0) (d_bin o_sub (d_var 1) d_int)) (d_ix o_ix (d_var 0) (d_var 1)))))) d_nil))))⟩
theorem w_is_ascending {P : Program} {w : World} {K : PySem.W.Frag} {h : Heap} {mg : Str → Option Value} {base : Heap} (KX : K.In h) (G : h.Ns mainGlobals mg) (c : He.SaysD fa fn K) (he : ex K = true) : Fn P w K mg base (clsOf K cs) 1 "is_ascending" 1 F_is_ascending := by
  obtain ⟨fd, Fd, hok⟩ := ok_is_ascending (P := P) (w := w) (base := base) KX G c he
  exact Fn.of hok (go_is_ascending KX G c) Fd.kp (Fd.bindsN fun _ _ _ _ _ _ us hl => match us, hl with | [_], _ => rfl)
/-! Disk.__init__ -/
def N_Disk___init__ : List Str := ["self", "many", "at"]
theorem sc_Disk___init__ : FnScope N_Disk___init__ ["self", "many"] (defScope s3) := ⟨rfl, rfl, rfl, by decide +kernel, rfl, by decide +kernel, by decide +kernel⟩
noncomputable def B_Disk___init__ : SF := sSeq (sIf (tOrF (tNotF (tOf (eDef 2 F_is_number (aCons (eVar 1) (aCons (eC (.int 400)) aNil))))) (tOf (eBin opEq (eVar 1) (eC (.int 0))))) (sNever) (sNil)) (sSeq (sFldD ["Disk"] "cells" (eVar 0) (eCe (aComp (iRg1 (aCons (eVar 1) aNil)) (gVar 2) tTrue (eC .non) [2]))) (sSeq (sFldD ["Disk"] "traces" (eVar 0) (eCe (aComp (iRg1 (aCons (eVar 1) aNil)) (gVar 2) tTrue (eFz (aMax aNil)) [2]))) (sFldD ["Disk"] "queue" (eVar 0) (eCe (aMax aNil)))))
noncomputable def F_Disk___init__ : FF := runF 3 B_Disk___init__
theorem ok_Disk___init__ {P : Program} {w : World} {K : PySem.W.Frag} {h : Heap} {mg : Str → Option Value} {base : Heap} (KX : K.In h) (G : h.Ns mainGlobals mg) (c : He.SaysD fa fn K) (he : ex K = true) : ∃ fd, FunD K "__init__" "Disk.__init__" (defArgs s3) (defBody s3) (defScope s3) (d3.dvs K) (d3.kws K) (He.fAd K ("Disk", some "__init__")) fd ∧ FnOk P w K mg base CX0 3 (He.fAd K ("Disk", some "__init__")) fd ["self", "many"] (liftSp ⟨K, clsOf K cs⟩ 2 F_Disk___init__) := by
  obtain ⟨fd, Fd⟩ := c.def_ 3 (d := d3) rfl
  exact ⟨fd, Fd, ok_of (N := N_Disk___init__) (ps := ["self", "many"]) (F := F_Disk___init__) (B := B_Disk___init__) Fd sc_Disk___init__ (fun _ _ _ _ h => h) fun cdv A outer s H E hr => (ss_cons (s_if (PW.pt (t_or (t_not (t_val (d_def (w_is_number KX G c he) hr (d_cons (d_var 1) (d_cons (d_glob (gc_MOST_SLOTS KX G c)) d_nil))))) (t_or1 (t_cmp (o_eq hr.units) (d_var 1) d_int)))) ss_never ss_nil) (ss_cons (s_fld (fo_cells c) (d_var 0) (d_ce (l_comp [("at", 2)] rfl sc_Disk___init__.nd (i_rg1 (fr_range KX G c) (d_cons (d_var 1) d_nil)) (blkOk_by (own := [("at", 2)]) (N := N_Disk___init__) (by kernel_rfl)) (fun _ _ _ _ _ => (v_name 2 sc_Disk___init__.nd)) (fun _ _ _ _ _ => ts_nil) (fun _ _ _ _ _ => d_non)))) (ss_cons (s_fld (fo_traces c) (d_var 0) (d_ce (l_comp [("at", 2)] rfl sc_Disk___init__.nd (i_rg1 (fr_range KX G c) (d_cons (d_var 1) d_nil)) (blkOk_by (own := [("at", 2)]) (N := N_Disk___init__) (by kernel_rfl)) (fun _ _ _ _ _ => (v_name 2 sc_Disk___init__.nd)) (fun _ _ _ _ _ => ts_nil) (fun _ _ _ _ _ => (d_fz (l_lst d_nil)))))) (ss_one (s_fld (fo_queue c) (d_var 0) (d_ce (l_lst d_nil)))))))⟩
theorem w_Disk___init__ {P : Program} {w : World} {K : PySem.W.Frag} {h : Heap} {mg : Str → Option Value} {base : Heap} (KX : K.In h) (G : h.Ns mainGlobals mg) (c : He.SaysD fa fn K) (he : ex K = true) : Mkr P w K mg base (clsOf K cs) 3 "Disk" 2 F_Disk___init__ := by
  obtain ⟨fd, Fd, hok⟩ := ok_Disk___init__ (P := P) (w := w) (base := base) KX G c he
  exact Mkr.of hok (cls_in (by decide)) (go_Disk KX G c) (He.mkr_ok (c.fact 37 (f := .mkr "Disk") rfl)) (Fd.bindsN fun _ _ _ _ _ _ us hl => match us, hl with | [_, _], _ => rfl)
/-! Disk.size -/
def N_Disk_size : List Str := ["self"]
theorem sc_Disk_size : FnScope N_Disk_size ["self"] (defScope s4) := ⟨rfl, rfl, rfl, by decide +kernel, rfl, by decide +kernel, by decide +kernel⟩
noncomputable def B_Disk_size : SF := sRet (eCall bLen (aCons (eFld ["Disk"] "cells" (eVar 0)) aNil))
noncomputable def F_Disk_size : FF := runF 1 B_Disk_size
theorem ok_Disk_size {P : Program} {w : World} {K : PySem.W.Frag} {h : Heap} {mg : Str → Option Value} {base : Heap} (KX : K.In h) (G : h.Ns mainGlobals mg) (c : He.SaysD fa fn K) (he : ex K = true) : ∃ fd, FunD K "size" "Disk.size" (defArgs s4) (defBody s4) (defScope s4) (d4.dvs K) (d4.kws K) (He.fAd K ("Disk", some "size")) fd ∧ FnOk P w K mg base CX0 1 (He.fAd K ("Disk", some "size")) fd ["self"] (liftSp ⟨K, clsOf K cs⟩ 1 F_Disk_size) := by
  obtain ⟨fd, Fd⟩ := c.def_ 4 (d := d4) rfl
  exact ⟨fd, Fd, ok_of (N := N_Disk_size) (ps := ["self"]) (F := F_Disk_size) (B := B_Disk_size) Fd sc_Disk_size (fun _ _ _ _ h => h) fun cdv A outer s H E hr => (ss_one (s_ret (d_blt c_len (fr_len KX G c) (d_cons (d_fld (fo_cells c) (d_var 0)) d_nil))))⟩
theorem w_Disk_size {P : Program} {w : World} {K : PySem.W.Frag} {h : Heap} {mg : Str → Option Value} {base : Heap} (KX : K.In h) (G : h.Ns mainGlobals mg) (c : He.SaysD fa fn K) (he : ex K = true) : Mt P w K mg base (clsOf K cs) 1 "Disk" "size" 1 F_Disk_size := by
  obtain ⟨fd, Fd, hok⟩ := ok_Disk_size (P := P) (w := w) (base := base) KX G c he
  exact Mt.of hok (cls_in (by decide)) (He.cls_ok (c.fact 7 (f := .cls "Disk") rfl)) (He.meth_ok (c.fact 39 (f := .meth "Disk" "size") rfl)) (Fd.bindsN fun _ _ _ _ _ _ us hl => match us, hl with | [_], _ => rfl)
/-! Disk.safe -/
def N_Disk_safe : List Str := ["self"]
theorem sc_Disk_safe : FnScope N_Disk_safe ["self"] (defScope s5) := ⟨rfl, rfl, rfl, by decide +kernel, rfl, by decide +kernel, by decide +kernel⟩
noncomputable def B_Disk_safe : SF := sRet (eCall bTuple (aCons (eFld ["Disk"] "cells" (eVar 0)) aNil))
noncomputable def F_Disk_safe : FF := runF 1 B_Disk_safe
theorem ok_Disk_safe {P : Program} {w : World} {K : PySem.W.Frag} {h : Heap} {mg : Str → Option Value} {base : Heap} (KX : K.In h) (G : h.Ns mainGlobals mg) (c : He.SaysD fa fn K) (he : ex K = true) : ∃ fd, FunD K "safe" "Disk.safe" (defArgs s5) (defBody s5) (defScope s5) (d5.dvs K) (d5.kws K) (He.fAd K ("Disk", some "safe")) fd ∧ FnOk P w K mg base CX0 1 (He.fAd K ("Disk", some "safe")) fd ["self"] (liftSp ⟨K, clsOf K cs⟩ 1 F_Disk_safe) := by
  obtain ⟨fd, Fd⟩ := c.def_ 5 (d := d5) rfl
  exact ⟨fd, Fd, ok_of (N := N_Disk_safe) (ps := ["self"]) (F := F_Disk_safe) (B := B_Disk_safe) Fd sc_Disk_safe (fun _ _ _ _ h => h) fun cdv A outer s H E hr => (ss_one (s_ret (d_bty c_tuple (fr_tuple KX G c) (d_cons (d_fld (fo_cells c) (d_var 0)) d_nil))))⟩
theorem w_Disk_safe {P : Program} {w : World} {K : PySem.W.Frag} {h : Heap} {mg : Str → Option Value} {base : Heap} (KX : K.In h) (G : h.Ns mainGlobals mg) (c : He.SaysD fa fn K) (he : ex K = true) : Mt P w K mg base (clsOf K cs) 1 "Disk" "safe" 1 F_Disk_safe := by
  obtain ⟨fd, Fd, hok⟩ := ok_Disk_safe (P := P) (w := w) (base := base) KX G c he
  exact Mt.of hok (cls_in (by decide)) (He.cls_ok (c.fact 7 (f := .cls "Disk") rfl)) (He.meth_ok (c.fact 40 (f := .meth "Disk" "safe") rfl)) (Fd.bindsN fun _ _ _ _ _ _ us hl => match us, hl with | [_], _ => rfl)
/-! Disk.waits -/
def N_Disk_waits : List Str := ["self"]
theorem sc_Disk_waits : FnScope N_Disk_waits ["self"] (defScope s6) := ⟨rfl, rfl, rfl, by decide +kernel, rfl, by decide +kernel, by decide +kernel⟩
noncomputable def B_Disk_waits : SF := sRet (eCall bLen (aCons (eFld ["Disk"] "queue" (eVar 0)) aNil))
noncomputable def F_Disk_waits : FF := runF 1 B_Disk_waits
theorem ok_Disk_waits {P : Program} {w : World} {K : PySem.W.Frag} {h : Heap} {mg : Str → Option Value} {base : Heap} (KX : K.In h) (G : h.Ns mainGlobals mg) (c : He.SaysD fa fn K) (he : ex K = true) : ∃ fd, FunD K "waits" "Disk.waits" (defArgs s6) (defBody s6) (defScope s6) (d6.dvs K) (d6.kws K) (He.fAd K ("Disk", some "waits")) fd ∧ FnOk P w K mg base CX0 1 (He.fAd K ("Disk", some "waits")) fd ["self"] (liftSp ⟨K, clsOf K cs⟩ 1 F_Disk_waits) := by
  obtain ⟨fd, Fd⟩ := c.def_ 6 (d := d6) rfl
  exact ⟨fd, Fd, ok_of (N := N_Disk_waits) (ps := ["self"]) (F := F_Disk_waits) (B := B_Disk_waits) Fd sc_Disk_waits (fun _ _ _ _ h => h) fun cdv A outer s H E hr => (ss_one (s_ret (d_blt c_len (fr_len KX G c) (d_cons (d_fld (fo_queue c) (d_var 0)) d_nil))))⟩
theorem w_Disk_waits {P : Program} {w : World} {K : PySem.W.Frag} {h : Heap} {mg : Str → Option Value} {base : Heap} (KX : K.In h) (G : h.Ns mainGlobals mg) (c : He.SaysD fa fn K) (he : ex K = true) : Mt P w K mg base (clsOf K cs) 1 "Disk" "waits" 1 F_Disk_waits := by
  obtain ⟨fd, Fd, hok⟩ := ok_Disk_waits (P := P) (w := w) (base := base) KX G c he
  exact Mt.of hok (cls_in (by decide)) (He.cls_ok (c.fact 7 (f := .cls "Disk") rfl)) (He.meth_ok (c.fact 41 (f := .meth "Disk" "waits") rfl)) (Fd.bindsN fun _ _ _ _ _ _ us hl => match us, hl with | [_], _ => rfl)
/-! Disk.put -/
def N_Disk_put : List Str := ["self", "at", "row"]
theorem sc_Disk_put : FnScope N_Disk_put ["self", "at", "row"] (defScope s7) := ⟨rfl, rfl, rfl, by decide +kernel, rfl, by decide +kernel, by decide +kernel⟩
noncomputable def B_Disk_put : SF := sSeq (sIf (tNotF (tOf (eDef 2 F_is_number (aCons (eVar 1) (aCons (eBin opSub (eCall bLen (aCons (eFld ["Disk"] "cells" (eVar 0)) aNil)) (eC (.int 1))) aNil))))) (sNever) (sNil)) (sSeq (sIf (tNotF (tOf (eIsi "tuple" (eVar 2)))) (sNever) (sNil)) (sEx (eBm isLst mAppend (eFld ["Disk"] "queue" (eVar 0)) (aCons (eTup (aCons (eVar 1) (aCons (eVar 2) aNil))) aNil))))
noncomputable def F_Disk_put : FF := runF 3 B_Disk_put
theorem ok_Disk_put {P : Program} {w : World} {K : PySem.W.Frag} {h : Heap} {mg : Str → Option Value} {base : Heap} (KX : K.In h) (G : h.Ns mainGlobals mg) (c : He.SaysD fa fn K) (he : ex K = true) : ∃ fd, FunD K "put" "Disk.put" (defArgs s7) (defBody s7) (defScope s7) (d7.dvs K) (d7.kws K) (He.fAd K ("Disk", some "put")) fd ∧ FnOk P w K mg base CX0 3 (He.fAd K ("Disk", some "put")) fd ["self", "at", "row"] (liftSp ⟨K, clsOf K cs⟩ 3 F_Disk_put) := by
  obtain ⟨fd, Fd⟩ := c.def_ 7 (d := d7) rfl
  exact ⟨fd, Fd, ok_of (N := N_Disk_put) (ps := ["self", "at", "row"]) (F := F_Disk_put) (B := B_Disk_put) Fd sc_Disk_put (fun _ _ _ _ h => h) fun cdv A outer s H E hr => (ss_cons (s_if (t_not (t_val (d_def (w_is_number KX G c he) hr (d_cons (d_var 1) (d_cons (d_bin o_sub (d_blt c_len (fr_len KX G c) (d_cons (d_fld (fo_cells c) (d_var 0)) d_nil)) d_int) d_nil))))) ss_never ss_nil) (ss_cons (s_if (t_not (t_val (d_isi "tuple" (d_var 2) (fr_isinstance KX G c) (fr_tuple KX G c)))) ss_never ss_nil) (ss_one (s_expr (d_append (d_fld (fo_queue c) (d_var 0)) (d_tup (d_cons (d_var 1) (d_cons (d_var 2) d_nil))))))))⟩
theorem w_Disk_put {P : Program} {w : World} {K : PySem.W.Frag} {h : Heap} {mg : Str → Option Value} {base : Heap} (KX : K.In h) (G : h.Ns mainGlobals mg) (c : He.SaysD fa fn K) (he : ex K = true) : Mt P w K mg base (clsOf K cs) 3 "Disk" "put" 3 F_Disk_put := by
  obtain ⟨fd, Fd, hok⟩ := ok_Disk_put (P := P) (w := w) (base := base) KX G c he
  exact Mt.of hok (cls_in (by decide)) (He.cls_ok (c.fact 7 (f := .cls "Disk") rfl)) (He.meth_ok (c.fact 42 (f := .meth "Disk" "put") rfl)) (Fd.bindsN fun _ _ _ _ _ _ us hl => match us, hl with | [_, _, _], _ => rfl)
/-! Disk.read -/
def N_Disk_read : List Str := ["self", "at", "found", "place", "row"]
theorem sc_Disk_read : FnScope N_Disk_read ["self", "at"] (defScope s8) := ⟨rfl, rfl, rfl, by decide +kernel, rfl, by decide +kernel, by decide +kernel⟩
noncomputable def B_Disk_read : SF := sSeq (sIf (tNotF (tOf (eDef 2 F_is_number (aCons (eVar 1) (aCons (eBin opSub (eCall bLen (aCons (eFld ["Disk"] "cells" (eVar 0)) aNil)) (eC (.int 1))) aNil))))) (sNever) (sNil)) (sSeq (sAsg (eBin opIx (eFld ["Disk"] "cells" (eVar 0)) (eVar 1)) (gVar 2)) (sSeq (sFor (iSeq (eFld ["Disk"] "queue" (eVar 0))) (gTupF 2 (gConsF (gVar 3) (gConsF (gVar 4) gNilF))) (sIf (tOf (eBin opEq (eVar 3) (eVar 1))) (sAsg (eVar 4) (gVar 2)) (sNil))) (sRet (eVar 2))))
noncomputable def F_Disk_read : FF := runF 5 B_Disk_read
theorem ok_Disk_read {P : Program} {w : World} {K : PySem.W.Frag} {h : Heap} {mg : Str → Option Value} {base : Heap} (KX : K.In h) (G : h.Ns mainGlobals mg) (c : He.SaysD fa fn K) (he : ex K = true) : ∃ fd, FunD K "read" "Disk.read" (defArgs s8) (defBody s8) (defScope s8) (d8.dvs K) (d8.kws K) (He.fAd K ("Disk", some "read")) fd ∧ FnOk P w K mg base CX0 3 (He.fAd K ("Disk", some "read")) fd ["self", "at"] (liftSp ⟨K, clsOf K cs⟩ 2 F_Disk_read) := by
  obtain ⟨fd, Fd⟩ := c.def_ 8 (d := d8) rfl
  exact ⟨fd, Fd, ok_of (N := N_Disk_read) (ps := ["self", "at"]) (F := F_Disk_read) (B := B_Disk_read) Fd sc_Disk_read (fun _ _ _ _ h => h) fun cdv A outer s H E hr => (ss_cons (s_if (t_not (t_val (d_def (w_is_number KX G c he) hr (d_cons (d_var 1) (d_cons (d_bin o_sub (d_blt c_len (fr_len KX G c) (d_cons (d_fld (fo_cells c) (d_var 0)) d_nil)) d_int) d_nil))))) ss_never ss_nil) (ss_cons (s_asg (d_ix o_ix (d_fld (fo_cells c) (d_var 0)) (d_var 1)) (g_name 2 sc_Disk_read.nd)) (ss_cons (s_for PassesOwn.never rfl (i_seq (d_fld (fo_queue c) (d_var 0))) (g_tup rfl (gs_cons (g_name 3 sc_Disk_read.nd) (gs_cons (g_name 4 sc_Disk_read.nd) gs_nil))) (ss_one (s_if (t_cmp (o_eq hr.units) (d_var 3) (d_var 1)) (ss_one (s_asg (d_var 4) (g_name 2 sc_Disk_read.nd))) ss_nil))) (ss_one (s_ret (d_var 2))))))⟩
theorem w_Disk_read {P : Program} {w : World} {K : PySem.W.Frag} {h : Heap} {mg : Str → Option Value} {base : Heap} (KX : K.In h) (G : h.Ns mainGlobals mg) (c : He.SaysD fa fn K) (he : ex K = true) : Mt P w K mg base (clsOf K cs) 3 "Disk" "read" 2 F_Disk_read := by
  obtain ⟨fd, Fd, hok⟩ := ok_Disk_read (P := P) (w := w) (base := base) KX G c he
  exact Mt.of hok (cls_in (by decide)) (He.cls_ok (c.fact 7 (f := .cls "Disk") rfl)) (He.meth_ok (c.fact 43 (f := .meth "Disk" "read") rfl)) (Fd.bindsN fun _ _ _ _ _ _ us hl => match us, hl with | [_, _], _ => rfl)
/-! Disk.lay -/
def N_Disk_lay : List Str := ["self", "at", "row"]
theorem sc_Disk_lay : FnScope N_Disk_lay ["self", "at", "row"] (defScope s9) := ⟨rfl, rfl, rfl, by decide +kernel, rfl, by decide +kernel, by decide +kernel⟩
noncomputable def B_Disk_lay : SF := sSeq (sAsg (eVar 2) (gSubF (eFld ["Disk"] "cells" (eVar 0)) (eVar 1))) (sAsg (eFz (aMax (aCons (eVar 2) aNil))) (gSubF (eFld ["Disk"] "traces" (eVar 0)) (eVar 1)))
noncomputable def F_Disk_lay : FF := runF 3 B_Disk_lay
theorem ok_Disk_lay {P : Program} {w : World} {K : PySem.W.Frag} {h : Heap} {mg : Str → Option Value} {base : Heap} (KX : K.In h) (G : h.Ns mainGlobals mg) (c : He.SaysD fa fn K) (he : ex K = true) : ∃ fd, FunD K "lay" "Disk.lay" (defArgs s9) (defBody s9) (defScope s9) (d9.dvs K) (d9.kws K) (He.fAd K ("Disk", some "lay")) fd ∧ FnOk P w K mg base CX0 1 (He.fAd K ("Disk", some "lay")) fd ["self", "at", "row"] (liftSp ⟨K, clsOf K cs⟩ 3 F_Disk_lay) := by
  obtain ⟨fd, Fd⟩ := c.def_ 9 (d := d9) rfl
  exact ⟨fd, Fd, ok_of (N := N_Disk_lay) (ps := ["self", "at", "row"]) (F := F_Disk_lay) (B := B_Disk_lay) Fd sc_Disk_lay (fun _ _ _ _ h => h) fun cdv A outer s H E hr => (ss_cons (s_asg (d_var 2) (g_sub (d_fld (fo_cells c) (d_var 0)) (d_var 1))) (ss_one (s_asg (d_fz (l_lst (d_cons (d_var 2) d_nil))) (g_sub (d_fld (fo_traces c) (d_var 0)) (d_var 1)))))⟩
theorem w_Disk_lay {P : Program} {w : World} {K : PySem.W.Frag} {h : Heap} {mg : Str → Option Value} {base : Heap} (KX : K.In h) (G : h.Ns mainGlobals mg) (c : He.SaysD fa fn K) (he : ex K = true) : Mt P w K mg base (clsOf K cs) 1 "Disk" "lay" 3 F_Disk_lay := by
  obtain ⟨fd, Fd, hok⟩ := ok_Disk_lay (P := P) (w := w) (base := base) KX G c he
  exact Mt.of hok (cls_in (by decide)) (He.cls_ok (c.fact 7 (f := .cls "Disk") rfl)) (He.meth_ok (c.fact 44 (f := .meth "Disk" "lay") rfl)) (Fd.bindsN fun _ _ _ _ _ _ us hl => match us, hl with | [_, _, _], _ => rfl)
/-! Disk.flush -/
def N_Disk_flush : List Str := ["self", "at", "row"]
theorem sc_Disk_flush : FnScope N_Disk_flush ["self"] (defScope s10) := ⟨rfl, rfl, rfl, by decide +kernel, rfl, by decide +kernel, by decide +kernel⟩
noncomputable def B_Disk_flush : SF := sSeq (sFor (iSeq (eFld ["Disk"] "queue" (eVar 0))) (gTupF 2 (gConsF (gVar 1) (gConsF (gVar 2) gNilF))) (sEx (eMeth "Disk" "lay" 3 F_Disk_lay (eVar 0) (aCons (eVar 1) (aCons (eVar 2) aNil))))) (sFldD ["Disk"] "queue" (eVar 0) (eCe (aMax aNil)))
noncomputable def F_Disk_flush : FF := runF 3 B_Disk_flush
theorem ok_Disk_flush {P : Program} {w : World} {K : PySem.W.Frag} {h : Heap} {mg : Str → Option Value} {base : Heap} (KX : K.In h) (G : h.Ns mainGlobals mg) (c : He.SaysD fa fn K) (he : ex K = true) : ∃ fd, FunD K "flush" "Disk.flush" (defArgs s10) (defBody s10) (defScope s10) (d10.dvs K) (d10.kws K) (He.fAd K ("Disk", some "flush")) fd ∧ FnOk P w K mg base CX0 2 (He.fAd K ("Disk", some "flush")) fd ["self"] (liftSp ⟨K, clsOf K cs⟩ 1 F_Disk_flush) := by
  obtain ⟨fd, Fd⟩ := c.def_ 10 (d := d10) rfl
  exact ⟨fd, Fd, ok_of (N := N_Disk_flush) (ps := ["self"]) (F := F_Disk_flush) (B := B_Disk_flush) Fd sc_Disk_flush (fun _ _ _ _ h => h) fun cdv A outer s H E hr => (ss_cons (s_for PassesOwn.never rfl (i_seq (d_fld (fo_queue c) (d_var 0))) (g_tup rfl (gs_cons (g_name 1 sc_Disk_flush.nd) (gs_cons (g_name 2 sc_Disk_flush.nd) gs_nil))) (ss_one (s_expr (d_meth (w_Disk_lay KX G c he) hr (d_var 0) (d_cons (d_var 1) (d_cons (d_var 2) d_nil)))))) (ss_one (s_fld (fo_queue c) (d_var 0) (d_ce (l_lst d_nil)))))⟩
theorem w_Disk_flush {P : Program} {w : World} {K : PySem.W.Frag} {h : Heap} {mg : Str → Option Value} {base : Heap} (KX : K.In h) (G : h.Ns mainGlobals mg) (c : He.SaysD fa fn K) (he : ex K = true) : Mt P w K mg base (clsOf K cs) 2 "Disk" "flush" 1 F_Disk_flush := by
  obtain ⟨fd, Fd, hok⟩ := ok_Disk_flush (P := P) (w := w) (base := base) KX G c he
  exact Mt.of hok (cls_in (by decide)) (He.cls_ok (c.fact 7 (f := .cls "Disk") rfl)) (He.meth_ok (c.fact 45 (f := .meth "Disk" "flush") rfl)) (Fd.bindsN fun _ _ _ _ _ _ us hl => match us, hl with | [_], _ => rfl)
/-! Disk.is_lot_of_puts -/
def N_Disk_is_lot_of_puts : List Str := ["self", "value", "one"]
theorem sc_Disk_is_lot_of_puts : FnScope N_Disk_is_lot_of_puts ["self", "value"] (defScope s11) := ⟨rfl, rfl, rfl, by decide +kernel, rfl, by decide +kernel, by decide +kernel⟩
noncomputable def B_Disk_is_lot_of_puts : SF := sSeq (sIf (tOrF (tNotF (tOf (eIsi "tuple" (eVar 1)))) (tNotF (tOf (eCall bAll (aCons (eFz (aComp (iSeq (eVar 1)) (gVar 2) tTrue (eDef 2 F_is_number (aCons (eVar 2) (aCons (eBin opSub (eCall bLen (aCons (eFld ["Disk"] "queue" (eVar 0)) aNil)) (eC (.int 1))) aNil))) [2])) aNil))))) (sRet (eC (.bl false))) (sNil)) (sRet (eDef 1 F_is_ascending (aCons (eVar 1) aNil)))
noncomputable def F_Disk_is_lot_of_puts : FF := runF 3 B_Disk_is_lot_of_puts
theorem ok_Disk_is_lot_of_puts {P : Program} {w : World} {K : PySem.W.Frag} {h : Heap} {mg : Str → Option Value} {base : Heap} (KX : K.In h) (G : h.Ns mainGlobals mg) (c : He.SaysD fa fn K) (he : ex K = true) : ∃ fd, FunD K "is_lot_of_puts" "Disk.is_lot_of_puts" (defArgs s11) (defBody s11) (defScope s11) (d11.dvs K) (d11.kws K) (He.fAd K ("Disk", some "is_lot_of_puts")) fd ∧ FnOk P w K mg base CX0 3 (He.fAd K ("Disk", some "is_lot_of_puts")) fd ["self", "value"] (liftSp ⟨K, clsOf K cs⟩ 2 F_Disk_is_lot_of_puts) := by
  obtain ⟨fd, Fd⟩ := c.def_ 11 (d := d11) rfl
  exact ⟨fd, Fd, ok_of (N := N_Disk_is_lot_of_puts) (ps := ["self", "value"]) (F := F_Disk_is_lot_of_puts) (B := B_Disk_is_lot_of_puts) Fd sc_Disk_is_lot_of_puts (fun _ _ _ _ h => h) fun cdv A outer s H E hr => (ss_cons (s_if (PW.pt (t_or (t_not (t_val (d_isi "tuple" (d_var 1) (fr_isinstance KX G c) (fr_tuple KX G c)))) (t_or1 (t_not (t_val (d_blt (c_all rfl) (fr_all KX G c) (d_cons (d_fz (l_comp [("one", 2)] rfl sc_Disk_is_lot_of_puts.nd (i_seq (d_var 1)) (blkOk_by (own := [("one", 2)]) (N := N_Disk_is_lot_of_puts) (by kernel_rfl)) (fun _ _ _ _ _ => (v_name 2 sc_Disk_is_lot_of_puts.nd)) (fun _ _ _ _ _ => ts_nil) (fun _ _ _ _ _ => (d_def (w_is_number KX G c he) hr (d_cons (d_var 2) (d_cons (d_bin o_sub (d_blt c_len (fr_len KX G c) (d_cons (d_fld (fo_queue c) (d_var 0)) d_nil)) d_int) d_nil)))))) d_nil))))))) (ss_one (s_ret d_bl)) ss_nil) (ss_one (s_ret (d_def (w_is_ascending KX G c he) (hr.mono (by decide)) (d_cons (d_var 1) d_nil)))))⟩
theorem w_Disk_is_lot_of_puts {P : Program} {w : World} {K : PySem.W.Frag} {h : Heap} {mg : Str → Option Value} {base : Heap} (KX : K.In h) (G : h.Ns mainGlobals mg) (c : He.SaysD fa fn K) (he : ex K = true) : Mt P w K mg base (clsOf K cs) 3 "Disk" "is_lot_of_puts" 2 F_Disk_is_lot_of_puts := by
  obtain ⟨fd, Fd, hok⟩ := ok_Disk_is_lot_of_puts (P := P) (w := w) (base := base) KX G c he
  exact Mt.of hok (cls_in (by decide)) (He.cls_ok (c.fact 7 (f := .cls "Disk") rfl)) (He.meth_ok (c.fact 46 (f := .meth "Disk" "is_lot_of_puts") rfl)) (Fd.bindsN fun _ _ _ _ _ _ us hl => match us, hl with | [_, _], _ => rfl)
/-! Disk.fall -/
def N_Disk_fall : List Str := ["self", "kept", "torn", "place", "at", "row", "one"]
theorem sc_Disk_fall : FnScope N_Disk_fall ["self", "kept", "torn"] (defScope s12) := ⟨rfl, rfl, rfl, by decide +kernel, rfl, by decide +kernel, by decide +kernel⟩
noncomputable def B_Disk_fall : SF := sSeq (sIf (tOrF (tNotF (tOf (eMeth "Disk" "is_lot_of_puts" 2 F_Disk_is_lot_of_puts (eVar 0) (aCons (eVar 1) aNil)))) (tOrF (tNotF (tOf (eMeth "Disk" "is_lot_of_puts" 2 F_Disk_is_lot_of_puts (eVar 0) (aCons (eVar 2) aNil)))) (tOf (eCall bAny (aCons (eFz (aComp (iSeq (eVar 2)) (gVar 6) tTrue (eBin opIn (eVar 6) (eVar 1)) [6])) aNil))))) (sNever) (sNil)) (sSeq (sFor (iEnumD (eFld ["Disk"] "queue" (eVar 0))) (gTupF 2 (gConsF (gVar 3) (gConsF (gTupF 2 (gConsF (gVar 4) (gConsF (gVar 5) gNilF))) gNilF))) (sIf (tOf (eBin opIn (eVar 3) (eVar 1))) (sEx (eMeth "Disk" "lay" 3 F_Disk_lay (eVar 0) (aCons (eVar 4) (aCons (eVar 5) aNil)))) (sIf (tOf (eBin opIn (eVar 3) (eVar 2))) (sSeq (sAsg (eC (.tup [.str "torn"])) (gSubF (eFld ["Disk"] "cells" (eVar 0)) (eVar 4))) (sAsg (eBin opAdd (eBin opIx (eFld ["Disk"] "traces" (eVar 0)) (eVar 4)) (eFz (aMax (aCons (eVar 5) aNil)))) (gSubF (eFld ["Disk"] "traces" (eVar 0)) (eVar 4)))) (sNil)))) (sFldD ["Disk"] "queue" (eVar 0) (eCe (aMax aNil))))
noncomputable def F_Disk_fall : FF := runF 7 B_Disk_fall
theorem ok_Disk_fall {P : Program} {w : World} {K : PySem.W.Frag} {h : Heap} {mg : Str → Option Value} {base : Heap} (KX : K.In h) (G : h.Ns mainGlobals mg) (c : He.SaysD fa fn K) (he : ex K = true) : ∃ fd, FunD K "fall" "Disk.fall" (defArgs s12) (defBody s12) (defScope s12) (d12.dvs K) (d12.kws K) (He.fAd K ("Disk", some "fall")) fd ∧ FnOk P w K mg base CX0 4 (He.fAd K ("Disk", some "fall")) fd ["self", "kept", "torn"] (liftSp ⟨K, clsOf K cs⟩ 3 F_Disk_fall) := by
  obtain ⟨fd, Fd⟩ := c.def_ 12 (d := d12) rfl
  exact ⟨fd, Fd, ok_of (N := N_Disk_fall) (ps := ["self", "kept", "torn"]) (F := F_Disk_fall) (B := B_Disk_fall) Fd sc_Disk_fall (fun _ _ _ _ h => h) fun cdv A outer s H E hr => (ss_cons (s_if (PW.pt (t_or (t_not (t_val (d_meth (w_Disk_is_lot_of_puts KX G c he) hr (d_var 0) (d_cons (d_var 1) d_nil)))) (t_or (t_not (t_val (d_meth (w_Disk_is_lot_of_puts KX G c he) hr (d_var 0) (d_cons (d_var 2) d_nil)))) (t_or1 (t_val (d_blt (c_any rfl) (fr_any KX G c) (d_cons (d_fz (l_comp [("one", 6)] rfl sc_Disk_fall.nd (i_seq (d_var 2)) (blkOk_by (own := [("one", 6)]) (N := N_Disk_fall) (by kernel_rfl)) (fun _ _ _ _ _ => (v_name 6 sc_Disk_fall.nd)) (fun _ _ _ _ _ => ts_nil) (fun _ _ _ _ _ => (d_cmp (o_in (units65 hr)) (d_var 6) (d_var 1))))) d_nil))))))) ss_never ss_nil) (ss_cons (s_for PassesOwn.never rfl (i_enum (fr_enumerate KX G c) (d_fld (fo_queue c) (d_var 0))) (g_tup rfl (gs_cons (g_name 3 sc_Disk_fall.nd) (gs_cons (g_tup rfl (gs_cons (g_name 4 sc_Disk_fall.nd) (gs_cons (g_name 5 sc_Disk_fall.nd) gs_nil))) gs_nil))) (ss_one (s_if (t_cmp (o_in (units65 hr)) (d_var 3) (d_var 1)) (ss_one (s_expr (d_meth (w_Disk_lay KX G c he) (hr.mono (by decide)) (d_var 0) (d_cons (d_var 4) (d_cons (d_var 5) d_nil))))) (ss_one (s_if (t_cmp (o_in (units65 hr)) (d_var 3) (d_var 2)) (ss_cons (s_asg (d_glob (gc_TORN KX G c he)) (g_sub (d_fld (fo_cells c) (d_var 0)) (d_var 4))) (ss_one (s_asg (d_bin o_add (d_ix o_ix (d_fld (fo_traces c) (d_var 0)) (d_var 4)) (d_fz (l_lst (d_cons (d_var 5) d_nil)))) (g_sub (d_fld (fo_traces c) (d_var 0)) (d_var 4))))) ss_nil))))) (ss_one (s_fld (fo_queue c) (d_var 0) (d_ce (l_lst d_nil))))))⟩
theorem w_Disk_fall {P : Program} {w : World} {K : PySem.W.Frag} {h : Heap} {mg : Str → Option Value} {base : Heap} (KX : K.In h) (G : h.Ns mainGlobals mg) (c : He.SaysD fa fn K) (he : ex K = true) : Mt P w K mg base (clsOf K cs) 4 "Disk" "fall" 3 F_Disk_fall := by
  obtain ⟨fd, Fd, hok⟩ := ok_Disk_fall (P := P) (w := w) (base := base) KX G c he
  exact Mt.of hok (cls_in (by decide)) (He.cls_ok (c.fact 7 (f := .cls "Disk") rfl)) (He.meth_ok (c.fact 47 (f := .meth "Disk" "fall") rfl)) (Fd.bindsN fun _ _ _ _ _ _ us hl => match us, hl with | [_, _, _], _ => rfl)
/-! Disk.look -/
def N_Disk_look : List Str := ["self", "found", "at", "rows", "here", "row", "place"]
theorem sc_Disk_look : FnScope N_Disk_look ["self"] (defScope s13) := ⟨rfl, rfl, rfl, by decide +kernel, rfl, by decide +kernel, by decide +kernel⟩
noncomputable def B_Disk_look : SF := sSeq (sAsg (eCe (aMax aNil)) (gVar 1)) (sSeq (sFor (iEnumD (eFld ["Disk"] "traces" (eVar 0))) (gTupF 2 (gConsF (gVar 2) (gConsF (gVar 3) gNilF))) (sSeq (sAsg (eCe (aMax aNil)) (gVar 4)) (sSeq (sFor (iSeq (eBin opAdd (eVar 3) (eFz (aComp (iSeq (eFld ["Disk"] "queue" (eVar 0))) (gTupF 2 (gConsF (gVar 6) (gConsF (gVar 5) gNilF))) (tOf (eBin opEq (eVar 6) (eVar 2))) (eVar 5) [6, 5])))) (gVar 5) (sIf (tOf (eBin opNotIn (eVar 5) (eVar 4))) (sEx (eBm isLst mAppend (eVar 4) (aCons (eVar 5) aNil))) (sNil))) (sEx (eBm isLst mAppend (eVar 1) (aCons (eCall bTuple (aCons (eVar 4) aNil)) aNil)))))) (sRet (eCall bTuple (aCons (eVar 1) aNil))))
noncomputable def F_Disk_look : FF := dropF (runF 7 B_Disk_look)
theorem ok_Disk_look {P : Program} {w : World} {K : PySem.W.Frag} {h : Heap} {mg : Str → Option Value} {base : Heap} (KX : K.In h) (G : h.Ns mainGlobals mg) (c : He.SaysD fa fn K) (he : ex K = true) : ∃ fd, FunD K "look" "Disk.look" (defArgs s13) (defBody s13) (defScope s13) (d13.dvs K) (d13.kws K) (He.fAd K ("Disk", some "look")) fd ∧ FnOk P w K mg base CX0 1 (He.fAd K ("Disk", some "look")) fd ["self"] (liftSp ⟨K, clsOf K cs⟩ 1 F_Disk_look) := by
  obtain ⟨fd, Fd⟩ := c.def_ 13 (d := d13) rfl
  exact ⟨fd, Fd, ok_of (N := N_Disk_look) (ps := ["self"]) (F := F_Disk_look) (B := B_Disk_look) Fd sc_Disk_look (fun _ _ _ _ h => dropF_C h) fun cdv A outer s H E hr => (ss_cons (s_asg (d_ce (l_lst d_nil)) (g_name 1 sc_Disk_look.nd)) (ss_cons (s_for PassesOwn.never rfl (i_enum (fr_enumerate KX G c) (d_fld (fo_traces c) (d_var 0))) (g_tup rfl (gs_cons (g_name 2 sc_Disk_look.nd) (gs_cons (g_name 3 sc_Disk_look.nd) gs_nil))) (ss_cons (s_asg (d_ce (l_lst d_nil)) (g_name 4 sc_Disk_look.nd)) (ss_cons (s_for PassesOwn.never rfl (i_seq (d_bin o_add (d_var 3) (d_fz (l_comp [("place", 6), ("row", 5)] rfl sc_Disk_look.nd (i_seq (d_fld (fo_queue c) (d_var 0))) (blkOk_by (own := [("place", 6), ("row", 5)]) (N := N_Disk_look) (by kernel_rfl)) (fun _ _ _ _ _ => (v_tup rfl (vs_cons (v_name 6 sc_Disk_look.nd) (vs_cons (v_name 5 sc_Disk_look.nd) vs_nil)))) (fun _ _ _ _ _ => (ts_one (t_cmp (o_eq hr.units) (d_var 6) (d_var 2)))) (fun _ _ _ _ _ => (d_var 5)))))) (g_name 5 sc_Disk_look.nd) (ss_one (s_if (t_cmp (o_notIn (units65 hr)) (d_var 5) (d_var 4)) (ss_one (s_expr (d_append (d_var 4) (d_var 5)))) ss_nil))) (ss_one (s_expr (d_append (d_var 1) (d_bty c_tuple (fr_tuple KX G c) (d_cons (d_var 4) d_nil)))))))) (ss_one (s_ret (d_bty c_tuple (fr_tuple KX G c) (d_cons (d_var 1) d_nil))))))⟩
theorem w_Disk_look {P : Program} {w : World} {K : PySem.W.Frag} {h : Heap} {mg : Str → Option Value} {base : Heap} (KX : K.In h) (G : h.Ns mainGlobals mg) (c : He.SaysD fa fn K) (he : ex K = true) : Mt P w K mg base (clsOf K cs) 1 "Disk" "look" 1 F_Disk_look := by
  obtain ⟨fd, Fd, hok⟩ := ok_Disk_look (P := P) (w := w) (base := base) KX G c he
  exact Mt.of hok (cls_in (by decide)) (He.cls_ok (c.fact 7 (f := .cls "Disk") rfl)) (He.meth_ok (c.fact 48 (f := .meth "Disk" "look") rfl)) (Fd.bindsN fun _ _ _ _ _ _ us hl => match us, hl with | [_], _ => rfl)
/-! Disk.shows -/
def N_Disk_shows : List Str := ["self", "row", "here"]
theorem sc_Disk_shows : FnScope N_Disk_shows ["self", "row"] (defScope s14) := ⟨rfl, rfl, rfl, by decide +kernel, rfl, by decide +kernel, by decide +kernel⟩
noncomputable def B_Disk_shows : SF := sRet (eCall bAny (aCons (eFz (aComp (iSeq (eMeth "Disk" "look" 1 F_Disk_look (eVar 0) aNil)) (gVar 2) tTrue (eBin opIn (eVar 1) (eVar 2)) [2])) aNil))
noncomputable def F_Disk_shows : FF := runF 3 B_Disk_shows
theorem ok_Disk_shows {P : Program} {w : World} {K : PySem.W.Frag} {h : Heap} {mg : Str → Option Value} {base : Heap} (KX : K.In h) (G : h.Ns mainGlobals mg) (c : He.SaysD fa fn K) (he : ex K = true) : ∃ fd, FunD K "shows" "Disk.shows" (defArgs s14) (defBody s14) (defScope s14) (d14.dvs K) (d14.kws K) (He.fAd K ("Disk", some "shows")) fd ∧ FnOk P w K mg base CX0 2 (He.fAd K ("Disk", some "shows")) fd ["self", "row"] (liftSp ⟨K, clsOf K cs⟩ 2 F_Disk_shows) := by
  obtain ⟨fd, Fd⟩ := c.def_ 14 (d := d14) rfl
  exact ⟨fd, Fd, ok_of (N := N_Disk_shows) (ps := ["self", "row"]) (F := F_Disk_shows) (B := B_Disk_shows) Fd sc_Disk_shows (fun _ _ _ _ h => h) fun cdv A outer s H E hr => (ss_one (s_ret (d_blt (c_any rfl) (fr_any KX G c) (d_cons (d_fz (l_comp [("here", 2)] rfl sc_Disk_shows.nd (i_seq (d_meth0 (w_Disk_look KX G c he) hr (d_var 0))) (blkOk_by (own := [("here", 2)]) (N := N_Disk_shows) (by kernel_rfl)) (fun _ _ _ _ _ => (v_name 2 sc_Disk_shows.nd)) (fun _ _ _ _ _ => ts_nil) (fun _ _ _ _ _ => (d_cmp (o_in (units65 hr)) (d_var 1) (d_var 2))))) d_nil))))⟩
theorem w_Disk_shows {P : Program} {w : World} {K : PySem.W.Frag} {h : Heap} {mg : Str → Option Value} {base : Heap} (KX : K.In h) (G : h.Ns mainGlobals mg) (c : He.SaysD fa fn K) (he : ex K = true) : Mt P w K mg base (clsOf K cs) 2 "Disk" "shows" 2 F_Disk_shows := by
  obtain ⟨fd, Fd, hok⟩ := ok_Disk_shows (P := P) (w := w) (base := base) KX G c he
  exact Mt.of hok (cls_in (by decide)) (He.cls_ok (c.fact 7 (f := .cls "Disk") rfl)) (He.meth_ok (c.fact 49 (f := .meth "Disk" "shows") rfl)) (Fd.bindsN fun _ _ _ _ _ _ us hl => match us, hl with | [_, _], _ => rfl)
/-! Ledge.__init__ -/
def N_Ledge___init__ : List Str := ["self", "slots"]
theorem sc_Ledge___init__ : FnScope N_Ledge___init__ ["self", "slots"] (defScope s15) := ⟨rfl, rfl, rfl, by decide +kernel, rfl, by decide +kernel, by decide +kernel⟩
noncomputable def B_Ledge___init__ : SF := sSeq (sFldD ["Ledge"] "disk" (eVar 0) (eMake "Disk" 2 F_Disk___init__ (aCons (eVar 1) aNil))) (sSeq (sFldD ["Ledge"] "needed" (eVar 0) (eCe (aMax aNil))) (sFldD ["Ledge"] "gone" (eVar 0) (eCe (aMax aNil))))
noncomputable def F_Ledge___init__ : FF := runF 2 B_Ledge___init__
theorem ok_Ledge___init__ {P : Program} {w : World} {K : PySem.W.Frag} {h : Heap} {mg : Str → Option Value} {base : Heap} (KX : K.In h) (G : h.Ns mainGlobals mg) (c : He.SaysD fa fn K) (he : ex K = true) : ∃ fd, FunD K "__init__" "Ledge.__init__" (defArgs s15) (defBody s15) (defScope s15) (d15.dvs K) (d15.kws K) (He.fAd K ("Ledge", some "__init__")) fd ∧ FnOk P w K mg base CX0 5 (He.fAd K ("Ledge", some "__init__")) fd ["self", "slots"] (liftSp ⟨K, clsOf K cs⟩ 2 F_Ledge___init__) := by
  obtain ⟨fd, Fd⟩ := c.def_ 15 (d := d15) rfl
  exact ⟨fd, Fd, ok_of (N := N_Ledge___init__) (ps := ["self", "slots"]) (F := F_Ledge___init__) (B := B_Ledge___init__) Fd sc_Ledge___init__ (fun _ _ _ _ h => h) fun cdv A outer s H E hr => (ss_cons (s_fld (fo_disk c) (d_var 0) (d_make (w_Disk___init__ KX G c he) hr (d_cons (d_var 1) d_nil))) (ss_cons (s_fld (fo_needed c) (d_var 0) (d_ce (l_lst d_nil))) (ss_one (s_fld (fo_gone c) (d_var 0) (d_ce (l_lst d_nil))))))⟩
theorem w_Ledge___init__ {P : Program} {w : World} {K : PySem.W.Frag} {h : Heap} {mg : Str → Option Value} {base : Heap} (KX : K.In h) (G : h.Ns mainGlobals mg) (c : He.SaysD fa fn K) (he : ex K = true) : Mkr P w K mg base (clsOf K cs) 5 "Ledge" 2 F_Ledge___init__ := by
  obtain ⟨fd, Fd, hok⟩ := ok_Ledge___init__ (P := P) (w := w) (base := base) KX G c he
  exact Mkr.of hok (cls_in (by decide)) (go_Ledge KX G c) (He.mkr_ok (c.fact 50 (f := .mkr "Ledge") rfl)) (Fd.bindsN fun _ _ _ _ _ _ us hl => match us, hl with | [_, _], _ => rfl)
/-! Ledge.may -/
def N_Ledge_may : List Str := ["self", "step", "word", "page"]
theorem sc_Ledge_may : FnScope N_Ledge_may ["self", "step"] (defScope s16) := ⟨rfl, rfl, rfl, by decide +kernel, rfl, by decide +kernel, by decide +kernel⟩
noncomputable def B_Ledge_may : SF := sSeq (sIf (tOrF (tNotF (tOf (eIsi "tuple" (eVar 1)))) (tOrF (tOf (eBin opNotIn (eCall bLen (aCons (eVar 1) aNil)) (eTup (aCons (eC (.int 1)) (aCons (eC (.int 2)) (aCons (eC (.int 3)) aNil)))))) (tNotF (tOf (eIsi "str" (eBin opIx (eVar 1) (eC (.int 0)))))))) (sRet (eC (.bl false))) (sNil)) (sSeq (sPar 2 3 (aCons (eBin opIx (eVar 1) (eC (.int 0))) (aCons (eBin opIx (eVar 1) (eUn opNeg (eC (.int 1)))) aNil))) (sSeq (sIf (tOf (eBin opEq (eCall bLen (aCons (eVar 1) aNil)) (eC (.int 1)))) (sRet (eBin opEq (eVar 2) (eC (.str "flush")))) (sNil)) (sSeq (sIf (tNotF (tOf (eDef 2 F_is_number (aCons (eVar 3) (aCons (eC (.int 1000)) aNil))))) (sRet (eC (.bl false))) (sNil)) (sSeq (sIf (tOf (eBin opEq (eCall bLen (aCons (eVar 1) aNil)) (eC (.int 3)))) (sRet (eAnd (eBin opEq (eVar 2) (eC (.str "put"))) (eAnd (eDef 2 F_is_number (aCons (eBin opIx (eVar 1) (eC (.int 1))) (aCons (eBin opSub (eMeth "Disk" "size" 1 F_Disk_size (eFld ["Ledge"] "disk" (eVar 0)) aNil) (eC (.int 1))) aNil))) (eBin opNotIn (eVar 3) (eFld ["Ledge"] "gone" (eVar 0)))))) (sNil)) (sSeq (sIf (tOf (eBin opEq (eVar 3) (eC (.int 1000)))) (sRet (eC (.bl false))) (sNil)) (sSeq (sIf (tOf (eBin opEq (eVar 2) (eC (.str "free")))) (sRet (eBin opIn (eVar 3) (eFld ["Ledge"] "needed" (eVar 0)))) (sNil)) (sRet (eAnd (eBin opIn (eVar 2) (eTup (aCons (eC (.str "need")) (aCons (eC (.str "gone")) aNil)))) (eAnd (eBin opNotIn (eVar 3) (eFld ["Ledge"] "needed" (eVar 0))) (eBin opNotIn (eVar 3) (eFld ["Ledge"] "gone" (eVar 0))))))))))))
noncomputable def F_Ledge_may : FF := runF 4 B_Ledge_may
theorem ok_Ledge_may {P : Program} {w : World} {K : PySem.W.Frag} {h : Heap} {mg : Str → Option Value} {base : Heap} (KX : K.In h) (G : h.Ns mainGlobals mg) (c : He.SaysD fa fn K) (he : ex K = true) : ∃ fd, FunD K "may" "Ledge.may" (defArgs s16) (defBody s16) (defScope s16) (d16.dvs K) (d16.kws K) (He.fAd K ("Ledge", some "may")) fd ∧ FnOk P w K mg base CX0 3 (He.fAd K ("Ledge", some "may")) fd ["self", "step"] (liftSp ⟨K, clsOf K cs⟩ 2 F_Ledge_may) := by
  obtain ⟨fd, Fd⟩ := c.def_ 16 (d := d16) rfl
  exact ⟨fd, Fd, ok_of (N := N_Ledge_may) (ps := ["self", "step"]) (F := F_Ledge_may) (B := B_Ledge_may) Fd sc_Ledge_may (fun _ _ _ _ h => h) fun cdv A outer s H E hr => (ss_cons (s_if (PW.pt (t_or (t_not (t_val (d_isi "tuple" (d_var 1) (fr_isinstance KX G c) (fr_tuple KX G c)))) (t_or (t_cmp (o_notIn (units65 hr)) (d_blt c_len (fr_len KX G c) (d_cons (d_var 1) d_nil)) (d_tup (d_cons d_int (d_cons d_int (d_cons d_int d_nil))))) (t_or1 (t_not (t_val (d_isi "str" (d_ix o_ix (d_var 1) d_int) (fr_isinstance KX G c) (fr_str KX G c)))))))) (ss_one (s_ret d_bl)) ss_nil) (ss_cons (s_par rfl sc_Ledge_may.nd (i := 2) (j := 3) rfl rfl (by decide) rfl rfl (d_cons (d_ix o_ix (d_var 1) d_int) (d_cons (d_ix o_ix (d_var 1) (d_un o_neg d_int)) d_nil)) rfl) (ss_cons (s_if (t_cmp (o_eq hr.units) (d_blt c_len (fr_len KX G c) (d_cons (d_var 1) d_nil)) d_int) (ss_one (s_ret (d_cmp (o_eq hr.units) (d_var 2) d_str))) ss_nil) (ss_cons (s_if (t_not (t_val (d_def (w_is_number KX G c he) hr (d_cons (d_var 3) (d_cons (d_glob (gc_MOST_PAGE KX G c)) d_nil))))) (ss_one (s_ret d_bl)) ss_nil) (ss_cons (s_if (t_cmp (o_eq hr.units) (d_blt c_len (fr_len KX G c) (d_cons (d_var 1) d_nil)) d_int) (ss_one (s_ret (d_and (d_cmp (o_eq hr.units) (d_var 2) d_str) (d_and (d_def (w_is_number KX G c he) hr (d_cons (d_ix o_ix (d_var 1) d_int) (d_cons (d_bin o_sub (d_meth0 (w_Disk_size KX G c he) (hr.mono (by decide)) (d_fld (fo_disk c) (d_var 0))) d_int) d_nil))) (d_one (d_cmp (o_notIn (units65 hr)) (d_var 3) (d_fld (fo_gone c) (d_var 0)))))))) ss_nil) (ss_cons (s_if (t_cmp (o_eq hr.units) (d_var 3) (d_glob (gc_BLANK KX G c))) (ss_one (s_ret d_bl)) ss_nil) (ss_cons (s_if (t_cmp (o_eq hr.units) (d_var 2) d_str) (ss_one (s_ret (d_cmp (o_in (units65 hr)) (d_var 3) (d_fld (fo_needed c) (d_var 0))))) ss_nil) (ss_one (s_ret (d_and (d_cmp (o_in (units65 hr)) (d_var 2) (d_tup (d_cons d_str (d_cons d_str d_nil)))) (d_and (d_cmp (o_notIn (units65 hr)) (d_var 3) (d_fld (fo_needed c) (d_var 0))) (d_one (d_cmp (o_notIn (units65 hr)) (d_var 3) (d_fld (fo_gone c) (d_var 0)))))))))))))))⟩
theorem w_Ledge_may {P : Program} {w : World} {K : PySem.W.Frag} {h : Heap} {mg : Str → Option Value} {base : Heap} (KX : K.In h) (G : h.Ns mainGlobals mg) (c : He.SaysD fa fn K) (he : ex K = true) : Mt P w K mg base (clsOf K cs) 3 "Ledge" "may" 2 F_Ledge_may := by
  obtain ⟨fd, Fd, hok⟩ := ok_Ledge_may (P := P) (w := w) (base := base) KX G c he
  exact Mt.of hok (cls_in (by decide)) (He.cls_ok (c.fact 15 (f := .cls "Ledge") rfl)) (He.meth_ok (c.fact 52 (f := .meth "Ledge" "may") rfl)) (Fd.bindsN fun _ _ _ _ _ _ us hl => match us, hl with | [_, _], _ => rfl)
/-! Ledge.take -/
def N_Ledge_take : List Str := ["self", "step"]
theorem sc_Ledge_take : FnScope N_Ledge_take ["self", "step"] (defScope s17) := ⟨rfl, rfl, rfl, by decide +kernel, rfl, by decide +kernel, by decide +kernel⟩
noncomputable def B_Ledge_take : SF := sIf (tOf (eBin opEq (eBin opIx (eVar 1) (eC (.int 0))) (eC (.str "flush")))) (sEx (eMeth "Disk" "flush" 1 F_Disk_flush (eFld ["Ledge"] "disk" (eVar 0)) aNil)) (sIf (tOf (eBin opEq (eBin opIx (eVar 1) (eC (.int 0))) (eC (.str "put")))) (sEx (eMeth "Disk" "put" 3 F_Disk_put (eFld ["Ledge"] "disk" (eVar 0)) (aCons (eBin opIx (eVar 1) (eC (.int 1))) (aCons (eTup (aCons (eBin opIx (eVar 1) (eC (.int 2))) aNil)) aNil)))) (sIf (tOf (eBin opEq (eBin opIx (eVar 1) (eC (.int 0))) (eC (.str "need")))) (sEx (eBm isLst mAppend (eFld ["Ledge"] "needed" (eVar 0)) (aCons (eBin opIx (eVar 1) (eC (.int 1))) aNil))) (sIf (tOf (eBin opEq (eBin opIx (eVar 1) (eC (.int 0))) (eC (.str "free")))) (sEx (eBm isLst mRemove (eFld ["Ledge"] "needed" (eVar 0)) (aCons (eBin opIx (eVar 1) (eC (.int 1))) aNil))) (sEx (eBm isLst mAppend (eFld ["Ledge"] "gone" (eVar 0)) (aCons (eBin opIx (eVar 1) (eC (.int 1))) aNil))))))
noncomputable def F_Ledge_take : FF := runF 2 B_Ledge_take
theorem ok_Ledge_take {P : Program} {w : World} {K : PySem.W.Frag} {h : Heap} {mg : Str → Option Value} {base : Heap} (KX : K.In h) (G : h.Ns mainGlobals mg) (c : He.SaysD fa fn K) (he : ex K = true) : ∃ fd, FunD K "take" "Ledge.take" (defArgs s17) (defBody s17) (defScope s17) (d17.dvs K) (d17.kws K) (He.fAd K ("Ledge", some "take")) fd ∧ FnOk P w K mg base CX0 4 (He.fAd K ("Ledge", some "take")) fd ["self", "step"] (liftSp ⟨K, clsOf K cs⟩ 2 F_Ledge_take) := by
  obtain ⟨fd, Fd⟩ := c.def_ 17 (d := d17) rfl
  exact ⟨fd, Fd, ok_of (N := N_Ledge_take) (ps := ["self", "step"]) (F := F_Ledge_take) (B := B_Ledge_take) Fd sc_Ledge_take (fun _ _ _ _ h => h) fun cdv A outer s H E hr => (ss_one (s_if (t_cmp (o_eq hr.units) (d_ix o_ix (d_var 1) d_int) d_str) (ss_one (s_expr (d_meth0 (w_Disk_flush KX G c he) (hr.mono (by decide)) (d_fld (fo_disk c) (d_var 0))))) (ss_one (s_if (t_cmp (o_eq hr.units) (d_ix o_ix (d_var 1) d_int) d_str) (ss_one (s_expr (d_meth (w_Disk_put KX G c he) hr (d_fld (fo_disk c) (d_var 0)) (d_cons (d_ix o_ix (d_var 1) d_int) (d_cons (d_tup (d_cons (d_ix o_ix (d_var 1) d_int) d_nil)) d_nil))))) (ss_one (s_if (t_cmp (o_eq hr.units) (d_ix o_ix (d_var 1) d_int) d_str) (ss_one (s_expr (d_append (d_fld (fo_needed c) (d_var 0)) (d_ix o_ix (d_var 1) d_int)))) (ss_one (s_if (t_cmp (o_eq hr.units) (d_ix o_ix (d_var 1) d_int) d_str) (ss_one (s_expr (d_remove (d_fld (fo_needed c) (d_var 0)) (d_ix o_ix (d_var 1) d_int)))) (ss_one (s_expr (d_append (d_fld (fo_gone c) (d_var 0)) (d_ix o_ix (d_var 1) d_int))))))))))))⟩
theorem w_Ledge_take {P : Program} {w : World} {K : PySem.W.Frag} {h : Heap} {mg : Str → Option Value} {base : Heap} (KX : K.In h) (G : h.Ns mainGlobals mg) (c : He.SaysD fa fn K) (he : ex K = true) : Mt P w K mg base (clsOf K cs) 4 "Ledge" "take" 2 F_Ledge_take := by
  obtain ⟨fd, Fd, hok⟩ := ok_Ledge_take (P := P) (w := w) (base := base) KX G c he
  exact Mt.of hok (cls_in (by decide)) (He.cls_ok (c.fact 15 (f := .cls "Ledge") rfl)) (He.meth_ok (c.fact 53 (f := .meth "Ledge" "take") rfl)) (Fd.bindsN fun _ _ _ _ _ _ us hl => match us, hl with | [_, _], _ => rfl)
/-! Ledge.is_sure -/
def N_Ledge_is_sure : List Str := ["self", "page", "waiting", "at", "row"]
theorem sc_Ledge_is_sure : FnScope N_Ledge_is_sure ["self", "page"] (defScope s18) := ⟨rfl, rfl, rfl, by decide +kernel, rfl, by decide +kernel, by decide +kernel⟩
noncomputable def B_Ledge_is_sure : SF := sSeq (sAsg (eFz (aComp (iSeq (eFld ["Disk"] "queue" (eFld ["Ledge"] "disk" (eVar 0)))) (gTupF 2 (gConsF (gVar 3) (gConsF (gVar 4) gNilF))) tTrue (eVar 3) [3, 4])) (gVar 2)) (sRet (eCall bAny (aCons (eFz (aComp (iEnumD (eMeth "Disk" "safe" 1 F_Disk_safe (eFld ["Ledge"] "disk" (eVar 0)) aNil)) (gTupF 2 (gConsF (gVar 3) (gConsF (gVar 4) gNilF))) tTrue (eAnd (eBin opEq (eVar 4) (eTup (aCons (eVar 1) aNil))) (eBin opNotIn (eVar 3) (eVar 2))) [3, 4])) aNil)))
noncomputable def F_Ledge_is_sure : FF := runF 5 B_Ledge_is_sure
theorem ok_Ledge_is_sure {P : Program} {w : World} {K : PySem.W.Frag} {h : Heap} {mg : Str → Option Value} {base : Heap} (KX : K.In h) (G : h.Ns mainGlobals mg) (c : He.SaysD fa fn K) (he : ex K = true) : ∃ fd, FunD K "is_sure" "Ledge.is_sure" (defArgs s18) (defBody s18) (defScope s18) (d18.dvs K) (d18.kws K) (He.fAd K ("Ledge", some "is_sure")) fd ∧ FnOk P w K mg base CX0 2 (He.fAd K ("Ledge", some "is_sure")) fd ["self", "page"] (liftSp ⟨K, clsOf K cs⟩ 2 F_Ledge_is_sure) := by
  obtain ⟨fd, Fd⟩ := c.def_ 18 (d := d18) rfl
  exact ⟨fd, Fd, ok_of (N := N_Ledge_is_sure) (ps := ["self", "page"]) (F := F_Ledge_is_sure) (B := B_Ledge_is_sure) Fd sc_Ledge_is_sure (fun _ _ _ _ h => h) fun cdv A outer s H E hr => (ss_cons (s_asg (d_fz (l_comp [("at", 3), ("row", 4)] rfl sc_Ledge_is_sure.nd (i_seq (d_fld (fo_queue c) (d_fld (fo_disk c) (d_var 0)))) (blkOk_by (own := [("at", 3), ("row", 4)]) (N := N_Ledge_is_sure) (by kernel_rfl)) (fun _ _ _ _ _ => (v_tup rfl (vs_cons (v_name 3 sc_Ledge_is_sure.nd) (vs_cons (v_name 4 sc_Ledge_is_sure.nd) vs_nil)))) (fun _ _ _ _ _ => ts_nil) (fun _ _ _ _ _ => (d_var 3)))) (g_name 2 sc_Ledge_is_sure.nd)) (ss_one (s_ret (d_blt (c_any rfl) (fr_any KX G c) (d_cons (d_fz (l_comp [("at", 3), ("row", 4)] rfl sc_Ledge_is_sure.nd (i_enum (fr_enumerate KX G c) (d_meth0 (w_Disk_safe KX G c he) hr (d_fld (fo_disk c) (d_var 0)))) (blkOk_by (own := [("at", 3), ("row", 4)]) (N := N_Ledge_is_sure) (by kernel_rfl)) (fun _ _ _ _ _ => (v_tup rfl (vs_cons (v_name 3 sc_Ledge_is_sure.nd) (vs_cons (v_name 4 sc_Ledge_is_sure.nd) vs_nil)))) (fun _ _ _ _ _ => ts_nil) (fun _ _ _ _ _ => (d_and (d_cmp (o_eq hr.units) (d_var 4) (d_tup (d_cons (d_var 1) d_nil))) (d_one (d_cmp (o_notIn (units65 hr)) (d_var 3) (d_var 2))))))) d_nil)))))⟩
theorem w_Ledge_is_sure {P : Program} {w : World} {K : PySem.W.Frag} {h : Heap} {mg : Str → Option Value} {base : Heap} (KX : K.In h) (G : h.Ns mainGlobals mg) (c : He.SaysD fa fn K) (he : ex K = true) : Mt P w K mg base (clsOf K cs) 2 "Ledge" "is_sure" 2 F_Ledge_is_sure := by
  obtain ⟨fd, Fd, hok⟩ := ok_Ledge_is_sure (P := P) (w := w) (base := base) KX G c he
  exact Mt.of hok (cls_in (by decide)) (He.cls_ok (c.fact 15 (f := .cls "Ledge") rfl)) (He.meth_ok (c.fact 54 (f := .meth "Ledge" "is_sure") rfl)) (Fd.bindsN fun _ _ _ _ _ _ us hl => match us, hl with | [_, _], _ => rfl)
/-! Ledge.fault -/
def N_Ledge_fault : List Str := ["self", "lost", "seen", "page"]
theorem sc_Ledge_fault : FnScope N_Ledge_fault ["self"] (defScope s19) := ⟨rfl, rfl, rfl, by decide +kernel, rfl, by decide +kernel, by decide +kernel⟩
noncomputable def B_Ledge_fault : SF := sSeq (sAsg (eFz (aComp (iSeq (eFld ["Ledge"] "needed" (eVar 0))) (gVar 3) (tNotF (tOf (eMeth "Ledge" "is_sure" 2 F_Ledge_is_sure (eVar 0) (aCons (eVar 3) aNil)))) (eVar 3) [3])) (gVar 1)) (sSeq (sIf (tOf (eBin opNe (eVar 1) (eFz (aMax aNil)))) (sRet (eTup (aCons (eC (.str "lost")) (aCons (eCall bMin (aCons (eVar 1) aNil)) aNil)))) (sNil)) (sSeq (sAsg (eFz (aComp (iSeq (eFld ["Ledge"] "gone" (eVar 0))) (gVar 3) (tOf (eMeth "Disk" "shows" 2 F_Disk_shows (eFld ["Ledge"] "disk" (eVar 0)) (aCons (eTup (aCons (eVar 3) aNil)) aNil))) (eVar 3) [3])) (gVar 2)) (sRet (eIf (tOf (eBin opNe (eVar 2) (eFz (aMax aNil)))) (eTup (aCons (eC (.str "seen")) (aCons (eCall bMin (aCons (eVar 2) aNil)) aNil))) (eC .non)))))
noncomputable def F_Ledge_fault : FF := runF 4 B_Ledge_fault
theorem ok_Ledge_fault {P : Program} {w : World} {K : PySem.W.Frag} {h : Heap} {mg : Str → Option Value} {base : Heap} (KX : K.In h) (G : h.Ns mainGlobals mg) (c : He.SaysD fa fn K) (he : ex K = true) : ∃ fd, FunD K "fault" "Ledge.fault" (defArgs s19) (defBody s19) (defScope s19) (d19.dvs K) (d19.kws K) (He.fAd K ("Ledge", some "fault")) fd ∧ FnOk P w K mg base CX0 3 (He.fAd K ("Ledge", some "fault")) fd ["self"] (liftSp ⟨K, clsOf K cs⟩ 1 F_Ledge_fault) := by
  obtain ⟨fd, Fd⟩ := c.def_ 19 (d := d19) rfl
  exact ⟨fd, Fd, ok_of (N := N_Ledge_fault) (ps := ["self"]) (F := F_Ledge_fault) (B := B_Ledge_fault) Fd sc_Ledge_fault (fun _ _ _ _ h => h) fun cdv A outer s H E hr => (ss_cons (s_setLc [("page", 3)] rfl sc_Ledge_fault.nd (i := 1) rfl rfl rfl (i_seq (d_fld (fo_needed c) (d_var 0))) (blkOk_by (own := [("page", 3)]) (N := N_Ledge_fault) (by kernel_rfl)) (fun _ _ _ _ _ => (v_name 3 sc_Ledge_fault.nd)) (fun _ _ _ _ _ => (ts_one (t_not (t_val (d_meth (w_Ledge_is_sure KX G c he) hr (d_var 0) (d_cons (d_var 3) d_nil)))))) (fun _ _ _ _ _ => (d_var 3)) (hfl := fz_imp)) (ss_cons (s_if (t_cmp (o_ne hr.units) (d_var 1) (d_fz (l_lst d_nil))) (ss_one (s_ret (d_tup (d_cons d_str (d_cons (d_blt (c_min rfl) (fr_min KX G c) (d_cons (d_var 1) d_nil)) d_nil))))) ss_nil) (ss_cons (s_setLc [("page", 3)] rfl sc_Ledge_fault.nd (i := 2) rfl rfl rfl (i_seq (d_fld (fo_gone c) (d_var 0))) (blkOk_by (own := [("page", 3)]) (N := N_Ledge_fault) (by kernel_rfl)) (fun _ _ _ _ _ => (v_name 3 sc_Ledge_fault.nd)) (fun _ _ _ _ _ => (ts_one (t_val (d_meth (w_Disk_shows KX G c he) hr (d_fld (fo_disk c) (d_var 0)) (d_cons (d_tup (d_cons (d_var 3) d_nil)) d_nil))))) (fun _ _ _ _ _ => (d_var 3)) (hfl := fz_imp)) (ss_one (s_ret (d_if (t_cmp (o_ne hr.units) (d_var 2) (d_fz (l_lst d_nil))) (d_tup (d_cons d_str (d_cons (d_blt (c_min rfl) (fr_min KX G c) (d_cons (d_var 2) d_nil)) d_nil))) d_non))))))⟩
theorem w_Ledge_fault {P : Program} {w : World} {K : PySem.W.Frag} {h : Heap} {mg : Str → Option Value} {base : Heap} (KX : K.In h) (G : h.Ns mainGlobals mg) (c : He.SaysD fa fn K) (he : ex K = true) : Mt P w K mg base (clsOf K cs) 3 "Ledge" "fault" 1 F_Ledge_fault := by
  obtain ⟨fd, Fd, hok⟩ := ok_Ledge_fault (P := P) (w := w) (base := base) KX G c he
  exact Mt.of hok (cls_in (by decide)) (He.cls_ok (c.fact 15 (f := .cls "Ledge") rfl)) (He.meth_ok (c.fact 55 (f := .meth "Ledge" "fault") rfl)) (Fd.bindsN fun _ _ _ _ _ _ us hl => match us, hl with | [_], _ => rfl)
/-! is_plan -/
def N_is_plan : List Str := ["slots", "value", "ledge", "step"]
theorem sc_is_plan : FnScope N_is_plan ["slots", "value"] (defScope s20) := ⟨rfl, rfl, rfl, by decide +kernel, rfl, by decide +kernel, by decide +kernel⟩
noncomputable def B_is_plan : SF := sSeq (sIf (tOrF (tNotF (tOf (eIsi "tuple" (eVar 1)))) (tOf (eBin opGt (eCall bLen (aCons (eVar 1) aNil)) (eC (.int 200))))) (sRet (eC (.bl false))) (sNil)) (sSeq (sAsg (eMake "Ledge" 2 F_Ledge___init__ (aCons (eVar 0) aNil)) (gVar 2)) (sSeq (sFor (iSeq (eVar 1)) (gVar 3) (sSeq (sIf (tNotF (tOf (eMeth "Ledge" "may" 2 F_Ledge_may (eVar 2) (aCons (eVar 3) aNil)))) (sRet (eC (.bl false))) (sNil)) (sEx (eMeth "Ledge" "take" 2 F_Ledge_take (eVar 2) (aCons (eVar 3) aNil))))) (sRet (eC (.bl true)))))
noncomputable def F_is_plan : FF := dropF (runF 4 B_is_plan)
theorem ok_is_plan {P : Program} {w : World} {K : PySem.W.Frag} {h : Heap} {mg : Str → Option Value} {base : Heap} (KX : K.In h) (G : h.Ns mainGlobals mg) (c : He.SaysD fa fn K) (he : ex K = true) : ∃ fd, FunD K "is_plan" "is_plan" (defArgs s20) (defBody s20) (defScope s20) (d20.dvs K) (d20.kws K) (He.fAd K ("is_plan", none)) fd ∧ FnOk P w K mg base CX0 7 (He.fAd K ("is_plan", none)) fd ["slots", "value"] (liftSp ⟨K, clsOf K cs⟩ 2 F_is_plan) := by
  obtain ⟨fd, Fd⟩ := c.def_ 20 (d := d20) rfl
  exact ⟨fd, Fd, ok_of (N := N_is_plan) (ps := ["slots", "value"]) (F := F_is_plan) (B := B_is_plan) Fd sc_is_plan (fun _ _ _ _ h => dropF_C h) fun cdv A outer s H E hr => (ss_cons (s_if (PW.pt (t_or (t_not (t_val (d_isi "tuple" (d_var 1) (fr_isinstance KX G c) (fr_tuple KX G c)))) (t_or1 (t_cmp o_gt (d_blt c_len (fr_len KX G c) (d_cons (d_var 1) d_nil)) (d_glob (gc_MOST_STEPS KX G c)))))) (ss_one (s_ret d_bl)) ss_nil) (ss_cons (s_asg (d_make (w_Ledge___init__ KX G c he) hr (d_cons (d_var 0) d_nil)) (g_name 2 sc_is_plan.nd)) (ss_cons (s_for PassesOwn.never rfl (i_seq (d_var 1)) (g_name 3 sc_is_plan.nd) (ss_cons (s_if (t_not (t_val (d_meth (w_Ledge_may KX G c he) (hr.mono (by decide)) (d_var 2) (d_cons (d_var 3) d_nil)))) (ss_one (s_ret d_bl)) ss_nil) (ss_one (s_expr (d_meth (w_Ledge_take KX G c he) (hr.mono (by decide)) (d_var 2) (d_cons (d_var 3) d_nil)))))) (ss_one (s_ret d_bl)))))⟩
theorem w_is_plan {P : Program} {w : World} {K : PySem.W.Frag} {h : Heap} {mg : Str → Option Value} {base : Heap} (KX : K.In h) (G : h.Ns mainGlobals mg) (c : He.SaysD fa fn K) (he : ex K = true) : Fn P w K mg base (clsOf K cs) 7 "is_plan" 2 F_is_plan := by
  obtain ⟨fd, Fd, hok⟩ := ok_is_plan (P := P) (w := w) (base := base) KX G c he
  exact Fn.of hok (go_is_plan KX G c) Fd.kp (Fd.bindsN fun _ _ _ _ _ _ us hl => match us, hl with | [_, _], _ => rfl)
/-! PlanFault.__init__ -/
def N_PlanFault___init__ : List Str := ["self", "cut", "torn", "word", "page"]
theorem sc_PlanFault___init__ : FnScope N_PlanFault___init__ ["self", "cut", "torn", "word", "page"] (defScope s21) := ⟨rfl, rfl, rfl, by decide +kernel, rfl, by decide +kernel, by decide +kernel⟩
noncomputable def B_PlanFault___init__ : SF := sSeq (sFldD ["PlanFault"] "cut" (eVar 0) (eVar 1)) (sSeq (sFldD ["PlanFault"] "torn" (eVar 0) (eVar 2)) (sSeq (sFldD ["PlanFault"] "word" (eVar 0) (eVar 3)) (sFldD ["PlanFault"] "page" (eVar 0) (eVar 4))))
noncomputable def F_PlanFault___init__ : FF := runF 5 B_PlanFault___init__
theorem ok_PlanFault___init__ {P : Program} {w : World} {K : PySem.W.Frag} {h : Heap} {mg : Str → Option Value} {base : Heap} (KX : K.In h) (G : h.Ns mainGlobals mg) (c : He.SaysD fa fn K) (he : ex K = true) : ∃ fd, FunD K "__init__" "PlanFault.__init__" (defArgs s21) (defBody s21) (defScope s21) (d21.dvs K) (d21.kws K) (He.fAd K ("PlanFault", some "__init__")) fd ∧ FnOk P w K mg base CX0 1 (He.fAd K ("PlanFault", some "__init__")) fd ["self", "cut", "torn", "word", "page"] (liftSp ⟨K, clsOf K cs⟩ 5 F_PlanFault___init__) := by
  obtain ⟨fd, Fd⟩ := c.def_ 21 (d := d21) rfl
  exact ⟨fd, Fd, ok_of (N := N_PlanFault___init__) (ps := ["self", "cut", "torn", "word", "page"]) (F := F_PlanFault___init__) (B := B_PlanFault___init__) Fd sc_PlanFault___init__ (fun _ _ _ _ h => h) fun cdv A outer s H E hr => (ss_cons (s_fld (fo_cut c) (d_var 0) (d_var 1)) (ss_cons (s_fld (fo_torn c) (d_var 0) (d_var 2)) (ss_cons (s_fld (fo_word c) (d_var 0) (d_var 3)) (ss_one (s_fld (fo_page c) (d_var 0) (d_var 4))))))⟩
theorem w_PlanFault___init__ {P : Program} {w : World} {K : PySem.W.Frag} {h : Heap} {mg : Str → Option Value} {base : Heap} (KX : K.In h) (G : h.Ns mainGlobals mg) (c : He.SaysD fa fn K) (he : ex K = true) : Mkr P w K mg base (clsOf K cs) 1 "PlanFault" 5 F_PlanFault___init__ := by
  obtain ⟨fd, Fd, hok⟩ := ok_PlanFault___init__ (P := P) (w := w) (base := base) KX G c he
  exact Mkr.of hok (cls_in (by decide)) (go_PlanFault KX G c) (He.mkr_ok (c.fact 57 (f := .mkr "PlanFault") rfl)) (Fd.bindsN fun _ _ _ _ _ _ us hl => match us, hl with | [_, _, _, _, _], _ => rfl)
/-! plan_fault -/
def N_plan_fault : List Str := ["slots", "plan", "ledge", "at", "step", "found", "torn"]
theorem sc_plan_fault : FnScope N_plan_fault ["slots", "plan"] (defScope s22) := ⟨rfl, rfl, rfl, by decide +kernel, rfl, by decide +kernel, by decide +kernel⟩
noncomputable def B_plan_fault : SF := sSeq (sAsg (eMake "Ledge" 2 F_Ledge___init__ (aCons (eVar 0) aNil)) (gVar 2)) (sSeq (sFor (iEnumD (eVar 1)) (gTupF 2 (gConsF (gVar 3) (gConsF (gVar 4) gNilF))) (sSeq (sEx (eMeth "Ledge" "take" 2 F_Ledge_take (eVar 2) (aCons (eVar 4) aNil))) (sSeq (sAsg (eMeth "Ledge" "fault" 1 F_Ledge_fault (eVar 2) aNil) (gVar 5)) (sIf (tOf (eBin opIsNot (eVar 5) (eC .non))) (sSeq (sAsg (eIf (tOf (eBin opEq (eBin opIx (eVar 5) (eC (.int 0))) (eC (.str "lost")))) (eRgT (aCons (eMeth "Disk" "waits" 1 F_Disk_waits (eFld ["Ledge"] "disk" (eVar 2)) aNil) aNil)) (eTup aNil)) (gVar 6)) (sRet (eMake "PlanFault" 5 F_PlanFault___init__ (aCons (eBin opAdd (eVar 3) (eC (.int 1))) (aCons (eVar 6) (aCons (eBin opIx (eVar 5) (eC (.int 0))) (aCons (eBin opIx (eVar 5) (eC (.int 1))) aNil))))))) (sNil))))) (sRet (eC .non)))
noncomputable def F_plan_fault : FF := dropF (runF 7 B_plan_fault)
theorem ok_plan_fault {P : Program} {w : World} {K : PySem.W.Frag} {h : Heap} {mg : Str → Option Value} {base : Heap} (KX : K.In h) (G : h.Ns mainGlobals mg) (c : He.SaysD fa fn K) (he : ex K = true) : ∃ fd, FunD K "plan_fault" "plan_fault" (defArgs s22) (defBody s22) (defScope s22) (d22.dvs K) (d22.kws K) (He.fAd K ("plan_fault", none)) fd ∧ FnOk P w K mg base CX0 7 (He.fAd K ("plan_fault", none)) fd ["slots", "plan"] (liftSp ⟨K, clsOf K cs⟩ 2 F_plan_fault) := by
  obtain ⟨fd, Fd⟩ := c.def_ 22 (d := d22) rfl
  exact ⟨fd, Fd, ok_of (N := N_plan_fault) (ps := ["slots", "plan"]) (F := F_plan_fault) (B := B_plan_fault) Fd sc_plan_fault (fun _ _ _ _ h => dropF_C h) fun cdv A outer s H E hr => (ss_cons (s_asg (d_make (w_Ledge___init__ KX G c he) hr (d_cons (d_var 0) d_nil)) (g_name 2 sc_plan_fault.nd)) (ss_cons (s_for PassesOwn.never rfl (i_enum (fr_enumerate KX G c) (d_var 1)) (g_tup rfl (gs_cons (g_name 3 sc_plan_fault.nd) (gs_cons (g_name 4 sc_plan_fault.nd) gs_nil))) (ss_cons (s_expr (d_meth (w_Ledge_take KX G c he) (hr.mono (by decide)) (d_var 2) (d_cons (d_var 4) d_nil))) (ss_cons (s_asg (d_meth0 (w_Ledge_fault KX G c he) (hr.mono (by decide)) (d_var 2)) (g_name 5 sc_plan_fault.nd)) (ss_one (s_if (t_cmp o_isNot (d_var 5) d_non) (ss_cons (s_asg (d_if (t_cmp (o_eq hr.units) (d_ix o_ix (d_var 5) d_int) d_str) (d_tupRg1 rfl (fr_tuple KX G c) (fr_range KX G c) (d_meth0 (w_Disk_waits KX G c he) (hr.mono (by decide)) (d_fld (fo_disk c) (d_var 2)))) (d_tup d_nil)) (g_name 6 sc_plan_fault.nd)) (ss_one (s_ret (d_make (w_PlanFault___init__ KX G c he) (hr.mono (by decide)) (d_cons (d_bin o_add (d_var 3) d_int) (d_cons (d_var 6) (d_cons (d_ix o_ix (d_var 5) d_int) (d_cons (d_ix o_ix (d_var 5) d_int) d_nil)))))))) ss_nil))))) (ss_one (s_ret d_non))))⟩
theorem w_plan_fault {P : Program} {w : World} {K : PySem.W.Frag} {h : Heap} {mg : Str → Option Value} {base : Heap} (KX : K.In h) (G : h.Ns mainGlobals mg) (c : He.SaysD fa fn K) (he : ex K = true) : Fn P w K mg base (clsOf K cs) 7 "plan_fault" 2 F_plan_fault := by
  obtain ⟨fd, Fd, hok⟩ := ok_plan_fault (P := P) (w := w) (base := base) KX G c he
  exact Fn.of hok (go_plan_fault KX G c) Fd.kp (Fd.bindsN fun _ _ _ _ _ _ us hl => match us, hl with | [_, _], _ => rfl)
/-! flushes_in -/
def N_flushes_in : List Str := ["plan", "step"]
theorem sc_flushes_in : FnScope N_flushes_in ["plan"] (defScope s23) := ⟨rfl, rfl, rfl, by decide +kernel, rfl, by decide +kernel, by decide +kernel⟩
noncomputable def B_flushes_in : SF := sRet (eCall bLen (aCons (eFz (aComp (iSeq (eVar 0)) (gVar 1) (tOf (eBin opEq (eVar 1) (eTup (aCons (eC (.str "flush")) aNil)))) (eVar 1) [1])) aNil))
noncomputable def F_flushes_in : FF := runF 2 B_flushes_in
theorem ok_flushes_in {P : Program} {w : World} {K : PySem.W.Frag} {h : Heap} {mg : Str → Option Value} {base : Heap} (KX : K.In h) (G : h.Ns mainGlobals mg) (c : He.SaysD fa fn K) (he : ex K = true) : ∃ fd, FunD K "flushes_in" "flushes_in" (defArgs s23) (defBody s23) (defScope s23) (d23.dvs K) (d23.kws K) (He.fAd K ("flushes_in", none)) fd ∧ FnOk P w K mg base CX0 1 (He.fAd K ("flushes_in", none)) fd ["plan"] (liftSp ⟨K, clsOf K cs⟩ 1 F_flushes_in) := by
  obtain ⟨fd, Fd⟩ := c.def_ 23 (d := d23) rfl
  exact ⟨fd, Fd, ok_of (N := N_flushes_in) (ps := ["plan"]) (F := F_flushes_in) (B := B_flushes_in) Fd sc_flushes_in (fun _ _ _ _ h => h) fun cdv A outer s H E hr => (ss_one (s_ret (d_blt c_len (fr_len KX G c) (d_cons (d_fz (l_comp [("step", 1)] rfl sc_flushes_in.nd (i_seq (d_var 0)) (blkOk_by (own := [("step", 1)]) (N := N_flushes_in) (by kernel_rfl)) (fun _ _ _ _ _ => (v_name 1 sc_flushes_in.nd)) (fun _ _ _ _ _ => (ts_one (t_cmp (o_eq hr.units) (d_var 1) (d_tup (d_cons d_str d_nil))))) (fun _ _ _ _ _ => (d_var 1)))) d_nil))))⟩
theorem w_flushes_in {P : Program} {w : World} {K : PySem.W.Frag} {h : Heap} {mg : Str → Option Value} {base : Heap} (KX : K.In h) (G : h.Ns mainGlobals mg) (c : He.SaysD fa fn K) (he : ex K = true) : Fn P w K mg base (clsOf K cs) 1 "flushes_in" 1 F_flushes_in := by
  obtain ⟨fd, Fd, hok⟩ := ok_flushes_in (P := P) (w := w) (base := base) KX G c he
  exact Fn.of hok (go_flushes_in KX G c) Fd.kp (Fd.bindsN fun _ _ _ _ _ _ us hl => match us, hl with | [_], _ => rfl)
/-! prompt_plan -/
def N_prompt_plan : List Str := ["maps", "steps", "i"]
theorem sc_prompt_plan : FnScope N_prompt_plan ["maps"] (defScope s24) := ⟨rfl, rfl, rfl, by decide +kernel, rfl, by decide +kernel, by decide +kernel⟩
noncomputable def B_prompt_plan : SF := sSeq (sAsg (eFz (aMax (aCons (eTup (aCons (eC (.str "put")) (aCons (eC (.int 0)) (aCons (eC (.int 0)) aNil)))) (aCons (eTup (aCons (eC (.str "flush")) aNil)) (aCons (eTup (aCons (eC (.str "need")) (aCons (eC (.int 0)) aNil))) aNil))))) (gVar 1)) (sSeq (sFor (iRg1 (aCons (eVar 0) aNil)) (gVar 2) (sSeq (sAsg (eBin opAdd (eVar 1) (eFz (aMax (aCons (eTup (aCons (eC (.str "put")) (aCons (eBin opSub (eC (.int 1)) (eBin opMod (eVar 2) (eC (.int 2)))) (aCons (eBin opAdd (eVar 2) (eC (.int 1))) aNil)))) (aCons (eTup (aCons (eC (.str "flush")) aNil)) (aCons (eTup (aCons (eC (.str "need")) (aCons (eBin opAdd (eVar 2) (eC (.int 1))) aNil))) (aCons (eTup (aCons (eC (.str "free")) (aCons (eVar 2) aNil))) aNil))))))) (gVar 1)) (sAsg (eBin opAdd (eVar 1) (eFz (aMax (aCons (eTup (aCons (eC (.str "put")) (aCons (eBin opMod (eVar 2) (eC (.int 2))) (aCons (eC (.int 1000)) aNil)))) (aCons (eTup (aCons (eC (.str "flush")) aNil)) (aCons (eTup (aCons (eC (.str "gone")) (aCons (eVar 2) aNil))) aNil)))))) (gVar 1)))) (sRet (eCall bTuple (aCons (eVar 1) aNil))))
noncomputable def F_prompt_plan : FF := runF 3 B_prompt_plan
theorem ok_prompt_plan {P : Program} {w : World} {K : PySem.W.Frag} {h : Heap} {mg : Str → Option Value} {base : Heap} (KX : K.In h) (G : h.Ns mainGlobals mg) (c : He.SaysD fa fn K) (he : ex K = true) : ∃ fd, FunD K "prompt_plan" "prompt_plan" (defArgs s24) (defBody s24) (defScope s24) (d24.dvs K) (d24.kws K) (He.fAd K ("prompt_plan", none)) fd ∧ FnOk P w K mg base CX0 1 (He.fAd K ("prompt_plan", none)) fd ["maps"] (liftSp ⟨K, clsOf K cs⟩ 1 F_prompt_plan) := by
  obtain ⟨fd, Fd⟩ := c.def_ 24 (d := d24) rfl
  exact ⟨fd, Fd, ok_of (N := N_prompt_plan) (ps := ["maps"]) (F := F_prompt_plan) (B := B_prompt_plan) Fd sc_prompt_plan (fun _ _ _ _ h => h) fun cdv A outer s H E hr => (ss_cons (s_asg (d_fz (l_lst (d_cons (d_tup (d_cons d_str (d_cons d_int (d_cons d_int d_nil)))) (d_cons (d_tup (d_cons d_str d_nil)) (d_cons (d_tup (d_cons d_str (d_cons d_int d_nil))) d_nil))))) (g_name 1 sc_prompt_plan.nd)) (ss_cons (s_for PassesOwn.never rfl (i_rg1 (fr_range KX G c) (d_cons (d_var 0) d_nil)) (g_name 2 sc_prompt_plan.nd) (ss_cons (s_asg (d_bin o_add (d_var 1) (d_fz (l_lst (d_cons (d_tup (d_cons d_str (d_cons (d_bin o_sub d_int (d_bin o_mod (d_var 2) d_int)) (d_cons (d_bin o_add (d_var 2) d_int) d_nil)))) (d_cons (d_tup (d_cons d_str d_nil)) (d_cons (d_tup (d_cons d_str (d_cons (d_bin o_add (d_var 2) d_int) d_nil))) (d_cons (d_tup (d_cons d_str (d_cons (d_var 2) d_nil))) d_nil))))))) (g_name 1 sc_prompt_plan.nd)) (ss_one (s_asg (d_bin o_add (d_var 1) (d_fz (l_lst (d_cons (d_tup (d_cons d_str (d_cons (d_bin o_mod (d_var 2) d_int) (d_cons (d_glob (gc_BLANK KX G c)) d_nil)))) (d_cons (d_tup (d_cons d_str d_nil)) (d_cons (d_tup (d_cons d_str (d_cons (d_var 2) d_nil))) d_nil)))))) (g_name 1 sc_prompt_plan.nd))))) (ss_one (s_ret (d_bty c_tuple (fr_tuple KX G c) (d_cons (d_var 1) d_nil))))))⟩
theorem w_prompt_plan {P : Program} {w : World} {K : PySem.W.Frag} {h : Heap} {mg : Str → Option Value} {base : Heap} (KX : K.In h) (G : h.Ns mainGlobals mg) (c : He.SaysD fa fn K) (he : ex K = true) : Fn P w K mg base (clsOf K cs) 1 "prompt_plan" 1 F_prompt_plan := by
  obtain ⟨fd, Fd, hok⟩ := ok_prompt_plan (P := P) (w := w) (base := base) KX G c he
  exact Fn.of hok (go_prompt_plan KX G c) Fd.kp (Fd.bindsN fun _ _ _ _ _ _ us hl => match us, hl with | [_], _ => rfl)
/-! lagging_plan -/
def N_lagging_plan : List Str := ["maps", "steps", "i"]
theorem sc_lagging_plan : FnScope N_lagging_plan ["maps"] (defScope s25) := ⟨rfl, rfl, rfl, by decide +kernel, rfl, by decide +kernel, by decide +kernel⟩
noncomputable def B_lagging_plan : SF := sSeq (sAsg (eFz (aMax (aCons (eTup (aCons (eC (.str "put")) (aCons (eC (.int 0)) (aCons (eC (.int 0)) aNil)))) (aCons (eTup (aCons (eC (.str "flush")) aNil)) (aCons (eTup (aCons (eC (.str "need")) (aCons (eC (.int 0)) aNil))) aNil))))) (gVar 1)) (sSeq (sFor (iRg1 (aCons (eVar 0) aNil)) (gVar 2) (sSeq (sAsg (eBin opAdd (eVar 1) (eFz (aMax (aCons (eTup (aCons (eC (.str "put")) (aCons (eBin opSub (eC (.int 1)) (eBin opMod (eVar 2) (eC (.int 2)))) (aCons (eBin opAdd (eVar 2) (eC (.int 1))) aNil)))) (aCons (eTup (aCons (eC (.str "flush")) aNil)) (aCons (eTup (aCons (eC (.str "need")) (aCons (eBin opAdd (eVar 2) (eC (.int 1))) aNil))) (aCons (eTup (aCons (eC (.str "free")) (aCons (eVar 2) aNil))) aNil))))))) (gVar 1)) (sAsg (eBin opAdd (eVar 1) (eIf (tOf (eBin opGt (eVar 2) (eC (.int 0)))) (eFz (aMax (aCons (eTup (aCons (eC (.str "gone")) (aCons (eBin opSub (eVar 2) (eC (.int 1))) aNil))) aNil))) (eFz (aMax aNil)))) (gVar 1)))) (sRet (eCall bTuple (aCons (eVar 1) aNil))))
noncomputable def F_lagging_plan : FF := runF 3 B_lagging_plan
theorem ok_lagging_plan {P : Program} {w : World} {K : PySem.W.Frag} {h : Heap} {mg : Str → Option Value} {base : Heap} (KX : K.In h) (G : h.Ns mainGlobals mg) (c : He.SaysD fa fn K) (he : ex K = true) : ∃ fd, FunD K "lagging_plan" "lagging_plan" (defArgs s25) (defBody s25) (defScope s25) (d25.dvs K) (d25.kws K) (He.fAd K ("lagging_plan", none)) fd ∧ FnOk P w K mg base CX0 1 (He.fAd K ("lagging_plan", none)) fd ["maps"] (liftSp ⟨K, clsOf K cs⟩ 1 F_lagging_plan) := by
  obtain ⟨fd, Fd⟩ := c.def_ 25 (d := d25) rfl
  exact ⟨fd, Fd, ok_of (N := N_lagging_plan) (ps := ["maps"]) (F := F_lagging_plan) (B := B_lagging_plan) Fd sc_lagging_plan (fun _ _ _ _ h => h) fun cdv A outer s H E hr => (ss_cons (s_asg (d_fz (l_lst (d_cons (d_tup (d_cons d_str (d_cons d_int (d_cons d_int d_nil)))) (d_cons (d_tup (d_cons d_str d_nil)) (d_cons (d_tup (d_cons d_str (d_cons d_int d_nil))) d_nil))))) (g_name 1 sc_lagging_plan.nd)) (ss_cons (s_for PassesOwn.never rfl (i_rg1 (fr_range KX G c) (d_cons (d_var 0) d_nil)) (g_name 2 sc_lagging_plan.nd) (ss_cons (s_asg (d_bin o_add (d_var 1) (d_fz (l_lst (d_cons (d_tup (d_cons d_str (d_cons (d_bin o_sub d_int (d_bin o_mod (d_var 2) d_int)) (d_cons (d_bin o_add (d_var 2) d_int) d_nil)))) (d_cons (d_tup (d_cons d_str d_nil)) (d_cons (d_tup (d_cons d_str (d_cons (d_bin o_add (d_var 2) d_int) d_nil))) (d_cons (d_tup (d_cons d_str (d_cons (d_var 2) d_nil))) d_nil))))))) (g_name 1 sc_lagging_plan.nd)) (ss_one (s_asg (d_bin o_add (d_var 1) (d_if (t_cmp o_gt (d_var 2) d_int) (d_fz (l_lst (d_cons (d_tup (d_cons d_str (d_cons (d_bin o_sub (d_var 2) d_int) d_nil))) d_nil))) (d_fz (l_lst d_nil)))) (g_name 1 sc_lagging_plan.nd))))) (ss_one (s_ret (d_bty c_tuple (fr_tuple KX G c) (d_cons (d_var 1) d_nil))))))⟩
theorem w_lagging_plan {P : Program} {w : World} {K : PySem.W.Frag} {h : Heap} {mg : Str → Option Value} {base : Heap} (KX : K.In h) (G : h.Ns mainGlobals mg) (c : He.SaysD fa fn K) (he : ex K = true) : Fn P w K mg base (clsOf K cs) 1 "lagging_plan" 1 F_lagging_plan := by
  obtain ⟨fd, Fd, hok⟩ := ok_lagging_plan (P := P) (w := w) (base := base) KX G c he
  exact Fn.of hok (go_lagging_plan KX G c) Fd.kp (Fd.bindsN fun _ _ _ _ _ _ us hl => match us, hl with | [_], _ => rfl)
/-! dealing_plan -/
def N_dealing_plan : List Str := ["maps", "steps", "i", "here", "drawn", "ahead"]
theorem sc_dealing_plan : FnScope N_dealing_plan ["maps"] (defScope s26) := ⟨rfl, rfl, rfl, by decide +kernel, rfl, by decide +kernel, by decide +kernel⟩
noncomputable def B_dealing_plan : SF := sSeq (sAsg (eFz (aMax (aCons (eTup (aCons (eC (.str "put")) (aCons (eC (.int 0)) (aCons (eC (.int 0)) aNil)))) (aCons (eTup (aCons (eC (.str "flush")) aNil)) (aCons (eTup (aCons (eC (.str "need")) (aCons (eC (.int 0)) aNil))) aNil))))) (gVar 1)) (sSeq (sFor (iRg1 (aCons (eVar 0) aNil)) (gVar 2) (sSeq (sPar3 3 4 5 (aCons (eBin opMod (eBin opMul (eC (.int 2)) (eVar 2)) (eC (.int 3))) (aCons (eBin opMod (eBin opAdd (eBin opMul (eC (.int 2)) (eVar 2)) (eC (.int 1))) (eC (.int 3))) (aCons (eBin opMod (eBin opAdd (eBin opMul (eC (.int 2)) (eVar 2)) (eC (.int 2))) (eC (.int 3))) aNil)))) (sSeq (sAsg (eBin opAdd (eVar 1) (eFz (aMax (aCons (eTup (aCons (eC (.str "put")) (aCons (eVar 4) (aCons (eBin opAdd (eC (.int 500)) (eVar 2)) aNil)))) (aCons (eTup (aCons (eC (.str "flush")) aNil)) (aCons (eTup (aCons (eC (.str "need")) (aCons (eBin opAdd (eC (.int 500)) (eVar 2)) aNil))) (aCons (eTup (aCons (eC (.str "put")) (aCons (eVar 5) (aCons (eBin opAdd (eVar 2) (eC (.int 1))) aNil)))) (aCons (eTup (aCons (eC (.str "flush")) aNil)) aNil)))))))) (gVar 1)) (sSeq (sAsg (eBin opAdd (eVar 1) (eFz (aMax (aCons (eTup (aCons (eC (.str "need")) (aCons (eBin opAdd (eVar 2) (eC (.int 1))) aNil))) (aCons (eTup (aCons (eC (.str "free")) (aCons (eBin opAdd (eC (.int 500)) (eVar 2)) aNil))) (aCons (eTup (aCons (eC (.str "free")) (aCons (eVar 2) aNil))) (aCons (eTup (aCons (eC (.str "put")) (aCons (eVar 3) (aCons (eC (.int 1000)) aNil)))) (aCons (eTup (aCons (eC (.str "put")) (aCons (eVar 4) (aCons (eC (.int 1000)) aNil)))) aNil)))))))) (gVar 1)) (sAsg (eBin opAdd (eVar 1) (eFz (aMax (aCons (eTup (aCons (eC (.str "flush")) aNil)) (aCons (eTup (aCons (eC (.str "gone")) (aCons (eBin opAdd (eC (.int 500)) (eVar 2)) aNil))) (aCons (eTup (aCons (eC (.str "gone")) (aCons (eVar 2) aNil))) aNil)))))) (gVar 1)))))) (sRet (eCall bTuple (aCons (eVar 1) aNil))))
noncomputable def F_dealing_plan : FF := runF 6 B_dealing_plan
theorem ok_dealing_plan {P : Program} {w : World} {K : PySem.W.Frag} {h : Heap} {mg : Str → Option Value} {base : Heap} (KX : K.In h) (G : h.Ns mainGlobals mg) (c : He.SaysD fa fn K) (he : ex K = true) : ∃ fd, FunD K "dealing_plan" "dealing_plan" (defArgs s26) (defBody s26) (defScope s26) (d26.dvs K) (d26.kws K) (He.fAd K ("dealing_plan", none)) fd ∧ FnOk P w K mg base CX0 1 (He.fAd K ("dealing_plan", none)) fd ["maps"] (liftSp ⟨K, clsOf K cs⟩ 1 F_dealing_plan) := by
  obtain ⟨fd, Fd⟩ := c.def_ 26 (d := d26) rfl
  exact ⟨fd, Fd, ok_of (N := N_dealing_plan) (ps := ["maps"]) (F := F_dealing_plan) (B := B_dealing_plan) Fd sc_dealing_plan (fun _ _ _ _ h => h) fun cdv A outer s H E hr => (ss_cons (s_asg (d_fz (l_lst (d_cons (d_tup (d_cons d_str (d_cons d_int (d_cons d_int d_nil)))) (d_cons (d_tup (d_cons d_str d_nil)) (d_cons (d_tup (d_cons d_str (d_cons d_int d_nil))) d_nil))))) (g_name 1 sc_dealing_plan.nd)) (ss_cons (s_for PassesOwn.never rfl (i_rg1 (fr_range KX G c) (d_cons (d_var 0) d_nil)) (g_name 2 sc_dealing_plan.nd) (ss_cons (s_par3 rfl sc_dealing_plan.nd (i := 3) (j := 4) (l := 5) rfl rfl rfl (by decide) (by decide) (by decide) rfl rfl rfl (d_cons (d_bin o_mod (d_bin o_mul d_int (d_var 2)) d_int) (d_cons (d_bin o_mod (d_bin o_add (d_bin o_mul d_int (d_var 2)) d_int) d_int) (d_cons (d_bin o_mod (d_bin o_add (d_bin o_mul d_int (d_var 2)) d_int) d_int) d_nil))) rfl) (ss_cons (s_asg (d_bin o_add (d_var 1) (d_fz (l_lst (d_cons (d_tup (d_cons d_str (d_cons (d_var 4) (d_cons (d_bin o_add d_int (d_var 2)) d_nil)))) (d_cons (d_tup (d_cons d_str d_nil)) (d_cons (d_tup (d_cons d_str (d_cons (d_bin o_add d_int (d_var 2)) d_nil))) (d_cons (d_tup (d_cons d_str (d_cons (d_var 5) (d_cons (d_bin o_add (d_var 2) d_int) d_nil)))) (d_cons (d_tup (d_cons d_str d_nil)) d_nil)))))))) (g_name 1 sc_dealing_plan.nd)) (ss_cons (s_asg (d_bin o_add (d_var 1) (d_fz (l_lst (d_cons (d_tup (d_cons d_str (d_cons (d_bin o_add (d_var 2) d_int) d_nil))) (d_cons (d_tup (d_cons d_str (d_cons (d_bin o_add d_int (d_var 2)) d_nil))) (d_cons (d_tup (d_cons d_str (d_cons (d_var 2) d_nil))) (d_cons (d_tup (d_cons d_str (d_cons (d_var 3) (d_cons (d_glob (gc_BLANK KX G c)) d_nil)))) (d_cons (d_tup (d_cons d_str (d_cons (d_var 4) (d_cons (d_glob (gc_BLANK KX G c)) d_nil)))) d_nil)))))))) (g_name 1 sc_dealing_plan.nd)) (ss_one (s_asg (d_bin o_add (d_var 1) (d_fz (l_lst (d_cons (d_tup (d_cons d_str d_nil)) (d_cons (d_tup (d_cons d_str (d_cons (d_bin o_add d_int (d_var 2)) d_nil))) (d_cons (d_tup (d_cons d_str (d_cons (d_var 2) d_nil))) d_nil)))))) (g_name 1 sc_dealing_plan.nd))))))) (ss_one (s_ret (d_bty c_tuple (fr_tuple KX G c) (d_cons (d_var 1) d_nil))))))⟩
theorem w_dealing_plan {P : Program} {w : World} {K : PySem.W.Frag} {h : Heap} {mg : Str → Option Value} {base : Heap} (KX : K.In h) (G : h.Ns mainGlobals mg) (c : He.SaysD fa fn K) (he : ex K = true) : Fn P w K mg base (clsOf K cs) 1 "dealing_plan" 1 F_dealing_plan := by
  obtain ⟨fd, Fd, hok⟩ := ok_dealing_plan (P := P) (w := w) (base := base) KX G c he
  exact Fn.of hok (go_dealing_plan KX G c) Fd.kp (Fd.bindsN fun _ _ _ _ _ _ us hl => match us, hl with | [_], _ => rfl)
/-! pens_from -/
def N_pens_from : List Str := ["d", "r", "own"]
theorem sc_pens_from : FnScope N_pens_from ["d", "r", "own"] (defScope s27) := ⟨rfl, rfl, rfl, by decide +kernel, rfl, by decide +kernel, by decide +kernel⟩
noncomputable def B_pens_from : SF := sRet (eBin opMul (eVar 1) (eBin opFdiv (eCall bMax (aCons (eC (.int 0)) (aCons (eBin opSub (eVar 2) (eVar 0)) aNil))) (eVar 1)))
noncomputable def F_pens_from : FF := runF 3 B_pens_from
theorem ok_pens_from {P : Program} {w : World} {K : PySem.W.Frag} {h : Heap} {mg : Str → Option Value} {base : Heap} (KX : K.In h) (G : h.Ns mainGlobals mg) (c : He.SaysD fa fn K) (he : ex K = true) : ∃ fd, FunD K "pens_from" "pens_from" (defArgs s27) (defBody s27) (defScope s27) (d27.dvs K) (d27.kws K) (He.fAd K ("pens_from", none)) fd ∧ FnOk P w K mg base CX0 1 (He.fAd K ("pens_from", none)) fd ["d", "r", "own"] (liftSp ⟨K, clsOf K cs⟩ 3 F_pens_from) := by
  obtain ⟨fd, Fd⟩ := c.def_ 27 (d := d27) rfl
  exact ⟨fd, Fd, ok_of (N := N_pens_from) (ps := ["d", "r", "own"]) (F := F_pens_from) (B := B_pens_from) Fd sc_pens_from (fun _ _ _ _ h => h) fun cdv A outer s H E hr => (ss_one (s_ret (d_bin o_mul (d_var 1) (d_bin o_fdiv (d_blt (c_max rfl) (fr_max KX G c) (d_cons d_int (d_cons (d_bin o_sub (d_var 2) (d_var 0)) d_nil))) (d_var 1)))))⟩
theorem w_pens_from {P : Program} {w : World} {K : PySem.W.Frag} {h : Heap} {mg : Str → Option Value} {base : Heap} (KX : K.In h) (G : h.Ns mainGlobals mg) (c : He.SaysD fa fn K) (he : ex K = true) : Fn P w K mg base (clsOf K cs) 1 "pens_from" 3 F_pens_from := by
  obtain ⟨fd, Fd, hok⟩ := ok_pens_from (P := P) (w := w) (base := base) KX G c he
  exact Fn.of hok (go_pens_from KX G c) Fd.kp (Fd.bindsN fun _ _ _ _ _ _ us hl => match us, hl with | [_, _, _], _ => rfl)
/-! counts_at -/
def N_counts_at : List Str := ["d", "r", "q", "own", "i"]
theorem sc_counts_at : FnScope N_counts_at ["d", "r", "q", "own", "i"] (defScope s28) := ⟨rfl, rfl, rfl, by decide +kernel, rfl, by decide +kernel, by decide +kernel⟩
noncomputable def B_counts_at : SF := sRet (eOr (eChain opLe opLe (eVar 4) (eVar 3) (eBin opAdd (eBin opAdd (eVar 4) (eVar 0)) (eVar 2))) (eChain opLe opLt (eDef 3 F_pens_from (aCons (eVar 0) (aCons (eVar 1) (aCons (eVar 3) aNil)))) (eVar 4) (eBin opAdd (eBin opMul (eVar 1) (eBin opFdiv (eVar 3) (eVar 1))) (eVar 1))))
noncomputable def F_counts_at : FF := runF 5 B_counts_at
theorem ok_counts_at {P : Program} {w : World} {K : PySem.W.Frag} {h : Heap} {mg : Str → Option Value} {base : Heap} (KX : K.In h) (G : h.Ns mainGlobals mg) (c : He.SaysD fa fn K) (he : ex K = true) : ∃ fd, FunD K "counts_at" "counts_at" (defArgs s28) (defBody s28) (defScope s28) (d28.dvs K) (d28.kws K) (He.fAd K ("counts_at", none)) fd ∧ FnOk P w K mg base CX0 2 (He.fAd K ("counts_at", none)) fd ["d", "r", "q", "own", "i"] (liftSp ⟨K, clsOf K cs⟩ 5 F_counts_at) := by
  obtain ⟨fd, Fd⟩ := c.def_ 28 (d := d28) rfl
  exact ⟨fd, Fd, ok_of (N := N_counts_at) (ps := ["d", "r", "q", "own", "i"]) (F := F_counts_at) (B := B_counts_at) Fd sc_counts_at (fun _ _ _ _ h => h) fun cdv A outer s H E hr => (ss_one (s_ret (d_or (d_chain o_le o_le (d_var 4) (d_var 3) (d_bin o_add (d_bin o_add (d_var 4) (d_var 0)) (d_var 2))) (d_one (d_chain o_le o_lt (d_def (w_pens_from KX G c he) hr (d_cons (d_var 0) (d_cons (d_var 1) (d_cons (d_var 3) d_nil)))) (d_var 4) (d_bin o_add (d_bin o_mul (d_var 1) (d_bin o_fdiv (d_var 3) (d_var 1))) (d_var 1)))))))⟩
theorem w_counts_at {P : Program} {w : World} {K : PySem.W.Frag} {h : Heap} {mg : Str → Option Value} {base : Heap} (KX : K.In h) (G : h.Ns mainGlobals mg) (c : He.SaysD fa fn K) (he : ex K = true) : Fn P w K mg base (clsOf K cs) 2 "counts_at" 5 F_counts_at := by
  obtain ⟨fd, Fd, hok⟩ := ok_counts_at (P := P) (w := w) (base := base) KX G c he
  exact Fn.of hok (go_counts_at KX G c) Fd.kp (Fd.bindsN fun _ _ _ _ _ _ us hl => match us, hl with | [_, _, _, _, _], _ => rfl)
/-! kept -/
def N_kept : List Str := ["d", "r", "q"]
theorem sc_kept : FnScope N_kept ["d", "r", "q"] (defScope s29) := ⟨rfl, rfl, rfl, by decide +kernel, rfl, by decide +kernel, by decide +kernel⟩
noncomputable def B_kept : SF := sRet (eBin opAdd (eBin opAdd (eVar 0) (eVar 1)) (eVar 2))
noncomputable def F_kept : FF := runF 3 B_kept
theorem ok_kept {P : Program} {w : World} {K : PySem.W.Frag} {h : Heap} {mg : Str → Option Value} {base : Heap} (KX : K.In h) (G : h.Ns mainGlobals mg) (c : He.SaysD fa fn K) (he : ex K = true) : ∃ fd, FunD K "kept" "kept" (defArgs s29) (defBody s29) (defScope s29) (d29.dvs K) (d29.kws K) (He.fAd K ("kept", none)) fd ∧ FnOk P w K mg base CX0 1 (He.fAd K ("kept", none)) fd ["d", "r", "q"] (liftSp ⟨K, clsOf K cs⟩ 3 F_kept) := by
  obtain ⟨fd, Fd⟩ := c.def_ 29 (d := d29) rfl
  exact ⟨fd, Fd, ok_of (N := N_kept) (ps := ["d", "r", "q"]) (F := F_kept) (B := B_kept) Fd sc_kept (fun _ _ _ _ h => h) fun cdv A outer s H E hr => (ss_one (s_ret (d_bin o_add (d_bin o_add (d_var 0) (d_var 1)) (d_var 2))))⟩
theorem w_kept {P : Program} {w : World} {K : PySem.W.Frag} {h : Heap} {mg : Str → Option Value} {base : Heap} (KX : K.In h) (G : h.Ns mainGlobals mg) (c : He.SaysD fa fn K) (he : ex K = true) : Fn P w K mg base (clsOf K cs) 1 "kept" 3 F_kept := by
  obtain ⟨fd, Fd, hok⟩ := ok_kept (P := P) (w := w) (base := base) KX G c he
  exact Fn.of hok (go_kept KX G c) Fd.kp (Fd.bindsN fun _ _ _ _ _ _ us hl => match us, hl with | [_, _, _], _ => rfl)
/-! counted_long -/
def N_counted_long : List Str := ["lots", "d", "r", "q", "looks", "found", "i", "lot", "x", "y", "own"]
theorem sc_counted_long : FnScope N_counted_long ["lots", "d", "r", "q", "looks"] (defScope s30) := ⟨rfl, rfl, rfl, by decide +kernel, rfl, by decide +kernel, by decide +kernel⟩
noncomputable def B_counted_long : SF := sSeq (sAsg (eCe (aMax aNil)) (gVar 5)) (sSeq (sFor (iEnumD (eVar 0)) (gTupF 2 (gConsF (gVar 6) (gConsF (gVar 7) gNilF))) (sEx (eBm isLst mAppend (eVar 5) (aCons (eCall bTuple (aCons (eFz (aComp (iSeq (eVar 7)) (gVar 8) (tOf (eCall bAny (aCons (eFz (aComp (iSeq (eVar 4)) (gTupF 2 (gConsF (gVar 9) (gConsF (gVar 10) gNilF))) tTrue (eAnd (eBin opEq (eVar 9) (eVar 8)) (eDef 5 F_counts_at (aCons (eVar 1) (aCons (eVar 2) (aCons (eVar 3) (aCons (eVar 10) (aCons (eVar 6) aNil))))))) [9, 10])) aNil))) (eVar 8) [8])) aNil)) aNil)))) (sRet (eCall bTuple (aCons (eVar 5) aNil))))
noncomputable def F_counted_long : FF := dropF (runF 11 B_counted_long)
theorem ok_counted_long {P : Program} {w : World} {K : PySem.W.Frag} {h : Heap} {mg : Str → Option Value} {base : Heap} (KX : K.In h) (G : h.Ns mainGlobals mg) (c : He.SaysD fa fn K) (he : ex K = true) : ∃ fd, FunD K "counted_long" "counted_long" (defArgs s30) (defBody s30) (defScope s30) (d30.dvs K) (d30.kws K) (He.fAd K ("counted_long", none)) fd ∧ FnOk P w K mg base CX0 3 (He.fAd K ("counted_long", none)) fd ["lots", "d", "r", "q", "looks"] (liftSp ⟨K, clsOf K cs⟩ 5 F_counted_long) := by
  obtain ⟨fd, Fd⟩ := c.def_ 30 (d := d30) rfl
  exact ⟨fd, Fd, ok_of (N := N_counted_long) (ps := ["lots", "d", "r", "q", "looks"]) (F := F_counted_long) (B := B_counted_long) Fd sc_counted_long (fun _ _ _ _ h => dropF_C h) fun cdv A outer s H E hr => (ss_cons (s_asg (d_ce (l_lst d_nil)) (g_name 5 sc_counted_long.nd)) (ss_cons (s_for PassesOwn.never rfl (i_enum (fr_enumerate KX G c) (d_var 0)) (g_tup rfl (gs_cons (g_name 6 sc_counted_long.nd) (gs_cons (g_name 7 sc_counted_long.nd) gs_nil))) (ss_one (s_expr (d_append (d_var 5) (d_bty c_tuple (fr_tuple KX G c) (d_cons (d_fz (l_comp [("x", 8)] rfl sc_counted_long.nd (i_seq (d_var 7)) (blkOk_by (own := [("x", 8)]) (N := N_counted_long) (by kernel_rfl)) (fun _ _ _ _ _ => (v_name 8 sc_counted_long.nd)) (fun _ _ _ _ _ => (ts_one (t_val (d_blt (c_any rfl) (fr_any KX G c) (d_cons (d_fz (l_comp [("y", 9), ("own", 10)] rfl sc_counted_long.nd (i_seq (d_var 4)) (blkOk_by (own := [("y", 9), ("own", 10)]) (N := N_counted_long) (by kernel_rfl)) (fun _ _ _ _ _ => (v_tup rfl (vs_cons (v_name 9 sc_counted_long.nd) (vs_cons (v_name 10 sc_counted_long.nd) vs_nil)))) (fun _ _ _ _ _ => ts_nil) (fun _ _ _ _ _ => (d_and (d_cmp (o_eq hr.units) (d_var 9) (d_var 8)) (d_one (d_def (w_counts_at KX G c he) hr (d_cons (d_var 1) (d_cons (d_var 2) (d_cons (d_var 3) (d_cons (d_var 10) (d_cons (d_var 6) d_nil))))))))))) d_nil))))) (fun _ _ _ _ _ => (d_var 8)))) d_nil)))))) (ss_one (s_ret (d_bty c_tuple (fr_tuple KX G c) (d_cons (d_var 5) d_nil))))))⟩
theorem w_counted_long {P : Program} {w : World} {K : PySem.W.Frag} {h : Heap} {mg : Str → Option Value} {base : Heap} (KX : K.In h) (G : h.Ns mainGlobals mg) (c : He.SaysD fa fn K) (he : ex K = true) : Fn P w K mg base (clsOf K cs) 3 "counted_long" 5 F_counted_long := by
  obtain ⟨fd, Fd, hok⟩ := ok_counted_long (P := P) (w := w) (base := base) KX G c he
  exact Fn.of hok (go_counted_long KX G c) Fd.kp (Fd.bindsN fun _ _ _ _ _ _ us hl => match us, hl with | [_, _, _, _, _], _ => rfl)
/-! is_spread -/
def N_is_spread : List Str := ["looks", "l", "owns", "x", "own", "houses"]
theorem sc_is_spread : FnScope N_is_spread ["looks", "l"] (defScope s31) := ⟨rfl, rfl, rfl, by decide +kernel, rfl, by decide +kernel, by decide +kernel⟩
noncomputable def B_is_spread : SF := sSeq (sAsg (eDct) (gVar 2)) (sSeq (sFor (iSeq (eVar 0)) (gTupF 2 (gConsF (gVar 3) (gConsF (gVar 4) gNilF))) (sSeq (sEx (eDSetd (eVar 2) (eVar 4) (eCe (aMax aNil)))) (sSeq (sIf (tOf (eBin opIn (eVar 3) (eDGet (eVar 2) (eVar 4)))) (sRet (eC (.bl false))) (sNil)) (sEx (eBm isLst mAppend (eDGet (eVar 2) (eVar 4)) (aCons (eVar 3) aNil)))))) (sRet (eLock (eVar 2) (eCall bAll (aCons (eFz (aComp (iVal (eVar 2)) (gVar 5) tTrue (eBin opLe (eCall bLen (aCons (eVar 5) aNil)) (eVar 1)) [5])) aNil)))))
noncomputable def F_is_spread : FF := dropF (runF 6 B_is_spread)
theorem ok_is_spread {P : Program} {w : World} {K : PySem.W.Frag} {h : Heap} {mg : Str → Option Value} {base : Heap} (KX : K.In h) (G : h.Ns mainGlobals mg) (c : He.SaysD fa fn K) (he : ex K = true) : ∃ fd, FunD K "is_spread" "is_spread" (defArgs s31) (defBody s31) (defScope s31) (d31.dvs K) (d31.kws K) (He.fAd K ("is_spread", none)) fd ∧ FnOk P w K mg base CX0 1 (He.fAd K ("is_spread", none)) fd ["looks", "l"] (liftSp ⟨K, clsOf K cs⟩ 2 F_is_spread) := by
  obtain ⟨fd, Fd⟩ := c.def_ 31 (d := d31) rfl
  exact ⟨fd, Fd, ok_of (N := N_is_spread) (ps := ["looks", "l"]) (F := F_is_spread) (B := B_is_spread) Fd sc_is_spread (fun _ _ _ _ h => dropF_C h) fun cdv A outer s H E hr => (ss_cons (s_asg d_dct (g_name 2 sc_is_spread.nd)) (ss_cons (s_for PassesOwn.never rfl (i_seq (d_var 0)) (g_tup rfl (gs_cons (g_name 3 sc_is_spread.nd) (gs_cons (g_name 4 sc_is_spread.nd) gs_nil))) (ss_cons (s_expr (d_dsetd (d_var 2) (d_var 4) (d_ce (l_lst d_nil)))) (ss_cons (s_if (t_cmp (o_in (units65 hr)) (d_var 3) (d_dget (Nat.lt_trans (Nat.add_lt_add_left (by decide : 1 < 64) _) hr.units) (d_var 2) (d_var 4))) (ss_one (s_ret d_bl)) ss_nil) (ss_one (s_expr (d_append (d_dget (Nat.lt_trans (Nat.add_lt_add_left (by decide : 1 < 64) _) hr.units) (d_var 2) (d_var 4)) (d_var 3))))))) (ss_one (s_ret (d_lock 2 (d_blt (c_all rfl) (fr_all KX G c) (d_cons (d_fz (l_comp [("houses", 5)] rfl sc_is_spread.nd (i_val (d_var 2)) (blkOk_by (own := [("houses", 5)]) (N := N_is_spread) (by kernel_rfl)) (fun _ _ _ _ _ => (v_name 5 sc_is_spread.nd)) (fun _ _ _ _ _ => ts_nil) (fun _ _ _ _ _ => (d_cmp o_le (d_blt c_len (fr_len KX G c) (d_cons (d_var 5) d_nil)) (d_var 1))))) d_nil)))))))⟩
theorem w_is_spread {P : Program} {w : World} {K : PySem.W.Frag} {h : Heap} {mg : Str → Option Value} {base : Heap} (KX : K.In h) (G : h.Ns mainGlobals mg) (c : He.SaysD fa fn K) (he : ex K = true) : Fn P w K mg base (clsOf K cs) 1 "is_spread" 2 F_is_spread := by
  obtain ⟨fd, Fd, hok⟩ := ok_is_spread (P := P) (w := w) (base := base) KX G c he
  exact Fn.of hok (go_is_spread KX G c) Fd.kp (Fd.bindsN fun _ _ _ _ _ _ us hl => match us, hl with | [_, _], _ => rfl)
/-! most_counted -/
def N_most_counted : List Str := ["k", "f", "l", "d", "r", "q"]
theorem sc_most_counted : FnScope N_most_counted ["k", "f", "l", "d", "r", "q"] (defScope s32) := ⟨rfl, rfl, rfl, by decide +kernel, rfl, by decide +kernel, by decide +kernel⟩
noncomputable def B_most_counted : SF := sRet (eCall bMin (aCons (eVar 0) (aCons (eBin opAdd (eVar 1) (eBin opMul (eVar 2) (eDef 3 F_kept (aCons (eVar 3) (aCons (eVar 4) (aCons (eVar 5) aNil)))))) aNil)))
noncomputable def F_most_counted : FF := runF 6 B_most_counted
theorem ok_most_counted {P : Program} {w : World} {K : PySem.W.Frag} {h : Heap} {mg : Str → Option Value} {base : Heap} (KX : K.In h) (G : h.Ns mainGlobals mg) (c : He.SaysD fa fn K) (he : ex K = true) : ∃ fd, FunD K "most_counted" "most_counted" (defArgs s32) (defBody s32) (defScope s32) (d32.dvs K) (d32.kws K) (He.fAd K ("most_counted", none)) fd ∧ FnOk P w K mg base CX0 2 (He.fAd K ("most_counted", none)) fd ["k", "f", "l", "d", "r", "q"] (liftSp ⟨K, clsOf K cs⟩ 6 F_most_counted) := by
  obtain ⟨fd, Fd⟩ := c.def_ 32 (d := d32) rfl
  exact ⟨fd, Fd, ok_of (N := N_most_counted) (ps := ["k", "f", "l", "d", "r", "q"]) (F := F_most_counted) (B := B_most_counted) Fd sc_most_counted (fun _ _ _ _ h => h) fun cdv A outer s H E hr => (ss_one (s_ret (d_blt (c_min rfl) (fr_min KX G c) (d_cons (d_var 0) (d_cons (d_bin o_add (d_var 1) (d_bin o_mul (d_var 2) (d_def (w_kept KX G c he) hr (d_cons (d_var 3) (d_cons (d_var 4) (d_cons (d_var 5) d_nil)))))) d_nil)))))⟩
theorem w_most_counted {P : Program} {w : World} {K : PySem.W.Frag} {h : Heap} {mg : Str → Option Value} {base : Heap} (KX : K.In h) (G : h.Ns mainGlobals mg) (c : He.SaysD fa fn K) (he : ex K = true) : Fn P w K mg base (clsOf K cs) 2 "most_counted" 6 F_most_counted := by
  obtain ⟨fd, Fd, hok⟩ := ok_most_counted (P := P) (w := w) (base := base) KX G c he
  exact Fn.of hok (go_most_counted KX G c) Fd.kp (Fd.bindsN fun _ _ _ _ _ _ us hl => match us, hl with | [_, _, _, _, _, _], _ => rfl)
/-! kept_copies -/
def N_kept_copies : List Str := ["f", "l", "d", "r", "q", "by_time"]
theorem sc_kept_copies : FnScope N_kept_copies ["f", "l", "d", "r", "q", "by_time"] (defScope s33) := ⟨rfl, rfl, rfl, by decide +kernel, rfl, by decide +kernel, by decide +kernel⟩
noncomputable def B_kept_copies : SF := sRet (eBin opAdd (eBin opAdd (eBin opMul (eIf (tOf (eVar 5)) (eC (.int 4)) (eC (.int 3))) (eVar 0)) (eBin opMul (eVar 1) (eDef 3 F_kept (aCons (eVar 2) (aCons (eVar 3) (aCons (eVar 4) aNil)))))) (eC (.int 1)))
noncomputable def F_kept_copies : FF := runF 6 B_kept_copies
theorem ok_kept_copies {P : Program} {w : World} {K : PySem.W.Frag} {h : Heap} {mg : Str → Option Value} {base : Heap} (KX : K.In h) (G : h.Ns mainGlobals mg) (c : He.SaysD fa fn K) (he : ex K = true) : ∃ fd, FunD K "kept_copies" "kept_copies" (defArgs s33) (defBody s33) (defScope s33) (d33.dvs K) (d33.kws K) (He.fAd K ("kept_copies", none)) fd ∧ FnOk P w K mg base CX0 2 (He.fAd K ("kept_copies", none)) fd ["f", "l", "d", "r", "q", "by_time"] (liftSp ⟨K, clsOf K cs⟩ 6 F_kept_copies) := by
  obtain ⟨fd, Fd⟩ := c.def_ 33 (d := d33) rfl
  exact ⟨fd, Fd, ok_of (N := N_kept_copies) (ps := ["f", "l", "d", "r", "q", "by_time"]) (F := F_kept_copies) (B := B_kept_copies) Fd sc_kept_copies (fun _ _ _ _ h => h) fun cdv A outer s H E hr => (ss_one (s_ret (d_bin o_add (d_bin o_add (d_bin o_mul (d_if (t_val (d_var 5)) d_int d_int) (d_var 0)) (d_bin o_mul (d_var 1) (d_def (w_kept KX G c he) hr (d_cons (d_var 2) (d_cons (d_var 3) (d_cons (d_var 4) d_nil)))))) d_int)))⟩
theorem w_kept_copies_5 {P : Program} {w : World} {K : PySem.W.Frag} {h : Heap} {mg : Str → Option Value} {base : Heap} (KX : K.In h) (G : h.Ns mainGlobals mg) (c : He.SaysD fa fn K) (he : ex K = true) : Fn P w K mg base (clsOf K cs) 2 "kept_copies" 5 (dfl [.bl false] F_kept_copies) := by
  obtain ⟨fd, Fd, hok⟩ := ok_kept_copies (P := P) (w := w) (base := base) KX G c he
  obtain ⟨ds, hv, hb⟩ := (Fd.binds1 (ps := ["f", "l", "d", "r", "q", "by_time"]) 5 0 (fun z => nomatch z) rfl fun _ _ _ _ _ _ _ us its hl hi => match us, hl, its, hi with | [_, _, _, _, _], _, [_], _ => ⟨_, rfl, rfl⟩)
  exact Fn.ofD hok (go_kept_copies KX G c) Fd.kp hv hb (fun w H => by simp [RepVs, RepV, He.Dv.v, He.DefD.dvs, d33]) rfl
/-! _law_take -/
def N__law_take : List Str := ["box", "many", "digit", "raw"]
theorem sc__law_take : FnScope N__law_take ["box", "many"] (defScope s34) := ⟨rfl, rfl, rfl, by decide +kernel, rfl, by decide +kernel, by decide +kernel⟩
noncomputable def B__law_take : SF := sSeq (sIf (tOf (eBin opGt (eBin opIx (eVar 0) (eC (.int 0))) (eC (.int 0)))) (sSeq (sAsg (eBin opMod (eCall bInt (aCons (eBin opIx (eVar 0) (eC (.int 0))) aNil)) (eVar 1)) (gVar 2)) (sSeq (sAsg (eBin opFdiv (eBin opIx (eVar 0) (eC (.int 0))) (eVar 1)) (gSubF (eVar 0) (eC (.int 0)))) (sRet (eVar 2)))) (sNil)) (sSeq (sAsg (eBin opAdd (eBin opIx (eVar 0) (eC (.int 2))) (eC (.int 1))) (gSubF (eVar 0) (eC (.int 2)))) (sSeq (sAsg (eBin opMod (eCall bInt (aCons (eBin opAdd (eBin opMul (eBin opAdd (eBin opIx (eVar 0) (eC (.int 1))) (eBin opMul (eC (.int 70003)) (eBin opIx (eVar 0) (eC (.int 2))))) (eC (.int 50051))) (eC (.int 307))) aNil)) (eC (.int 2147483543))) (gVar 3)) (sSeq (sAsg (eBin opAdd (eBin opMod (eCall bInt (aCons (eBin opAdd (eBin opMul (eVar 3) (eC (.int 40013))) (eC (.int 30011))) aNil)) (eC (.int 2147483629))) (eC (.int 1))) (gSubF (eVar 0) (eC (.int 1)))) (sRet (eBin opMod (eCall bInt (aCons (eBin opFdiv (eBin opAdd (eBin opMul (eVar 3) (eC (.int 2147483647))) (eBin opIx (eVar 0) (eC (.int 1)))) (eC (.int 4099))) aNil)) (eVar 1))))))
noncomputable def F__law_take : FF := runF 4 B__law_take
theorem ok__law_take {P : Program} {w : World} {K : PySem.W.Frag} {h : Heap} {mg : Str → Option Value} {base : Heap} (KX : K.In h) (G : h.Ns mainGlobals mg) (c : He.SaysD fa fn K) (he : ex K = true) : ∃ fd, FunD K "_law_take" "_law_take" (defArgs s34) (defBody s34) (defScope s34) (d34.dvs K) (d34.kws K) (He.fAd K ("_law_take", none)) fd ∧ FnOk P w K mg base CX0 1 (He.fAd K ("_law_take", none)) fd ["box", "many"] (liftSp ⟨K, clsOf K cs⟩ 2 F__law_take) := by
  obtain ⟨fd, Fd⟩ := c.def_ 34 (d := d34) rfl
  exact ⟨fd, Fd, ok_of (N := N__law_take) (ps := ["box", "many"]) (F := F__law_take) (B := B__law_take) Fd sc__law_take (fun _ _ _ _ h => h) fun cdv A outer s H E hr => (ss_cons (s_if (t_cmp o_gt (d_ix o_ix (d_var 0) d_int) d_int) (ss_cons (s_asg (d_bin o_mod (d_bty c_int (fr_int KX G c) (d_cons (d_ix o_ix (d_var 0) d_int) d_nil)) (d_var 1)) (g_name 2 sc__law_take.nd)) (ss_cons (s_asg (d_bin o_fdiv (d_ix o_ix (d_var 0) d_int) (d_var 1)) (g_sub (d_var 0) d_int)) (ss_one (s_ret (d_var 2))))) ss_nil) (ss_cons (s_asg (d_bin o_add (d_ix o_ix (d_var 0) d_int) d_int) (g_sub (d_var 0) d_int)) (ss_cons (s_asg (d_bin o_mod (d_bty c_int (fr_int KX G c) (d_cons (d_bin o_add (d_bin o_mul (d_bin o_add (d_ix o_ix (d_var 0) d_int) (d_bin o_mul d_int (d_ix o_ix (d_var 0) d_int))) d_int) d_int) d_nil)) d_int) (g_name 3 sc__law_take.nd)) (ss_cons (s_asg (d_bin o_add (d_bin o_mod (d_bty c_int (fr_int KX G c) (d_cons (d_bin o_add (d_bin o_mul (d_var 3) d_int) d_int) d_nil)) d_int) d_int) (g_sub (d_var 0) d_int)) (ss_one (s_ret (d_bin o_mod (d_bty c_int (fr_int KX G c) (d_cons (d_bin o_fdiv (d_bin o_add (d_bin o_mul (d_var 3) d_int) (d_ix o_ix (d_var 0) d_int)) d_int) d_nil)) (d_var 1))))))))⟩
theorem w__law_take {P : Program} {w : World} {K : PySem.W.Frag} {h : Heap} {mg : Str → Option Value} {base : Heap} (KX : K.In h) (G : h.Ns mainGlobals mg) (c : He.SaysD fa fn K) (he : ex K = true) : Fn P w K mg base (clsOf K cs) 1 "_law_take" 2 F__law_take := by
  obtain ⟨fd, Fd, hok⟩ := ok__law_take (P := P) (w := w) (base := base) KX G c he
  exact Fn.of hok (go__law_take KX G c) Fd.kp (Fd.bindsN fun _ _ _ _ _ _ us hl => match us, hl with | [_, _], _ => rfl)
/-! _law_pick -/
def N__law_pick : List Str := ["box", "some"]
theorem sc__law_pick : FnScope N__law_pick ["box", "some"] (defScope s35) := ⟨rfl, rfl, rfl, by decide +kernel, rfl, by decide +kernel, by decide +kernel⟩
noncomputable def B__law_pick : SF := sRet (eBin opIx (eVar 1) (eDef 2 F__law_take (aCons (eVar 0) (aCons (eCall bLen (aCons (eVar 1) aNil)) aNil))))
noncomputable def F__law_pick : FF := runF 2 B__law_pick
theorem ok__law_pick {P : Program} {w : World} {K : PySem.W.Frag} {h : Heap} {mg : Str → Option Value} {base : Heap} (KX : K.In h) (G : h.Ns mainGlobals mg) (c : He.SaysD fa fn K) (he : ex K = true) : ∃ fd, FunD K "_law_pick" "_law_pick" (defArgs s35) (defBody s35) (defScope s35) (d35.dvs K) (d35.kws K) (He.fAd K ("_law_pick", none)) fd ∧ FnOk P w K mg base CX0 2 (He.fAd K ("_law_pick", none)) fd ["box", "some"] (liftSp ⟨K, clsOf K cs⟩ 2 F__law_pick) := by
  obtain ⟨fd, Fd⟩ := c.def_ 35 (d := d35) rfl
  exact ⟨fd, Fd, ok_of (N := N__law_pick) (ps := ["box", "some"]) (F := F__law_pick) (B := B__law_pick) Fd sc__law_pick (fun _ _ _ _ h => h) fun cdv A outer s H E hr => (ss_one (s_ret (d_ix o_ix (d_var 1) (d_def (w__law_take KX G c he) hr (d_cons (d_var 0) (d_cons (d_blt c_len (fr_len KX G c) (d_cons (d_var 1) d_nil)) d_nil))))))⟩
theorem w__law_pick {P : Program} {w : World} {K : PySem.W.Frag} {h : Heap} {mg : Str → Option Value} {base : Heap} (KX : K.In h) (G : h.Ns mainGlobals mg) (c : He.SaysD fa fn K) (he : ex K = true) : Fn P w K mg base (clsOf K cs) 2 "_law_pick" 2 F__law_pick := by
  obtain ⟨fd, Fd, hok⟩ := ok__law_pick (P := P) (w := w) (base := base) KX G c he
  exact Fn.of hok (go__law_pick KX G c) Fd.kp (Fd.bindsN fun _ _ _ _ _ _ us hl => match us, hl with | [_, _], _ => rfl)
/-! _law_part -/
def N__law_part : List Str := ["box", "lot", "many", "left", "x"]
theorem sc__law_part : FnScope N__law_part ["box", "lot", "many"] (defScope s36) := ⟨rfl, rfl, rfl, by decide +kernel, rfl, by decide +kernel, by decide +kernel⟩
noncomputable def B__law_part : SF := sSeq (sAsg (eCe (aCall nList (aCons (eVar 1) aNil))) (gVar 3)) (sRet (eCall bTuple (aCons (eFz (aCall nSorted (aCons (eFz (aComp (iRg1 (aCons (eVar 2) aNil)) (gVar 4) tTrue (eBm isLst mPopAt (eVar 3) (aCons (eDef 2 F__law_take (aCons (eVar 0) (aCons (eCall bLen (aCons (eVar 3) aNil)) aNil))) aNil)) [4])) aNil))) aNil)))
noncomputable def F__law_part : FF := dropF (runF 5 B__law_part)
theorem ok__law_part {P : Program} {w : World} {K : PySem.W.Frag} {h : Heap} {mg : Str → Option Value} {base : Heap} (KX : K.In h) (G : h.Ns mainGlobals mg) (c : He.SaysD fa fn K) (he : ex K = true) : ∃ fd, FunD K "_law_part" "_law_part" (defArgs s36) (defBody s36) (defScope s36) (d36.dvs K) (d36.kws K) (He.fAd K ("_law_part", none)) fd ∧ FnOk P w K mg base CX0 2 (He.fAd K ("_law_part", none)) fd ["box", "lot", "many"] (liftSp ⟨K, clsOf K cs⟩ 3 F__law_part) := by
  obtain ⟨fd, Fd⟩ := c.def_ 36 (d := d36) rfl
  exact ⟨fd, Fd, ok_of (N := N__law_part) (ps := ["box", "lot", "many"]) (F := F__law_part) (B := B__law_part) Fd sc__law_part (fun _ _ _ _ h => dropF_C h) fun cdv A outer s H E hr => (ss_cons (s_asg (d_ce (l_bty c_list (fr_list KX G c) (d_cons (d_var 1) d_nil))) (g_name 3 sc__law_part.nd)) (ss_one (s_ret (d_bty c_tuple (fr_tuple KX G c) (d_cons (d_fz (l_blt c_sorted (fr_sorted KX G c) (d_cons (d_fz (l_comp [("x", 4)] rfl sc__law_part.nd (i_rg1 (fr_range KX G c) (d_cons (d_var 2) d_nil)) (blkOk_by (own := [("x", 4)]) (N := N__law_part) (by kernel_rfl)) (fun _ _ _ _ _ => (v_name 4 sc__law_part.nd)) (fun _ _ _ _ _ => ts_nil) (fun _ _ _ _ _ => (d_popAt (d_var 3) (d_def (w__law_take KX G c he) hr (d_cons (d_var 0) (d_cons (d_blt c_len (fr_len KX G c) (d_cons (d_var 3) d_nil)) d_nil))))))) d_nil))) d_nil)))))⟩
theorem w__law_part {P : Program} {w : World} {K : PySem.W.Frag} {h : Heap} {mg : Str → Option Value} {base : Heap} (KX : K.In h) (G : h.Ns mainGlobals mg) (c : He.SaysD fa fn K) (he : ex K = true) : Fn P w K mg base (clsOf K cs) 2 "_law_part" 3 F__law_part := by
  obtain ⟨fd, Fd, hok⟩ := ok__law_part (P := P) (w := w) (base := base) KX G c he
  exact Fn.of hok (go__law_part KX G c) Fd.kp (Fd.bindsN fun _ _ _ _ _ _ us hl => match us, hl with | [_, _, _], _ => rfl)
/-! _law_box -/
def N__law_box : List Str := ["script", "k", "cell"]
theorem sc__law_box : FnScope N__law_box ["script", "k"] (defScope s37) := ⟨rfl, rfl, rfl, by decide +kernel, rfl, by decide +kernel, by decide +kernel⟩
noncomputable def B__law_box : SF := sSeq (sAsg (eBin opAdd (eBin opMul (eC (.int 6007)) (eVar 1)) (eC (.int 2061))) (gVar 2)) (sSeq (sIf (tOf (eBin opLt (eVar 1) (eCall bLen (aCons (eVar 0) aNil)))) (sAsg (eBin opMod (eCall bInt (aCons (eCall bAbs (aCons (eBin opIx (eVar 0) (eVar 1)) aNil)) aNil)) (eBin opMul (eBin opMul (eBin opPow (eC (.int 10)) (eC (.int 60))) (eBin opPow (eC (.int 10)) (eC (.int 60)))) (eBin opPow (eC (.int 10)) (eC (.int 60))))) (gVar 2)) (sIf (tOf (eBin opGt (eCall bLen (aCons (eVar 0) aNil)) (eC (.int 0)))) (sAsg (eBin opAdd (eVar 2) (eBin opMul (eBin opMod (eCall bInt (aCons (eCall bAbs (aCons (eBin opIx (eVar 0) (eBin opMod (eCall bInt (aCons (eVar 1) aNil)) (eCall bLen (aCons (eVar 0) aNil)))) aNil)) aNil)) (eC (.int 2147483629))) (eC (.int 60017)))) (gVar 2)) (sNil))) (sRet (eCe (aMax (aCons (eBin opIx (eFz (aMax (aCons (eC (.int 0)) (aCons (eVar 2) aNil)))) (eCall bInt (aCons (eBin opGe (eVar 2) (eBin opPow (eC (.int 10)) (eC (.int 18)))) aNil))) (aCons (eBin opAdd (eBin opMod (eCall bInt (aCons (eBin opAdd (eBin opMul (eBin opMod (eCall bInt (aCons (eVar 2) aNil)) (eC (.int 2147483629))) (eC (.int 30013))) (eBin opMul (eC (.int 47057)) (eVar 1))) aNil)) (eC (.int 2147483629))) (eC (.int 1))) (aCons (eC (.int 0)) aNil)))))))
noncomputable def F__law_box : FF := runF 3 B__law_box
theorem ok__law_box {P : Program} {w : World} {K : PySem.W.Frag} {h : Heap} {mg : Str → Option Value} {base : Heap} (KX : K.In h) (G : h.Ns mainGlobals mg) (c : He.SaysD fa fn K) (he : ex K = true) : ∃ fd, FunD K "_law_box" "_law_box" (defArgs s37) (defBody s37) (defScope s37) (d37.dvs K) (d37.kws K) (He.fAd K ("_law_box", none)) fd ∧ FnOk P w K mg base CX0 1 (He.fAd K ("_law_box", none)) fd ["script", "k"] (liftSp ⟨K, clsOf K cs⟩ 2 F__law_box) := by
  obtain ⟨fd, Fd⟩ := c.def_ 37 (d := d37) rfl
  exact ⟨fd, Fd, ok_of (N := N__law_box) (ps := ["script", "k"]) (F := F__law_box) (B := B__law_box) Fd sc__law_box (fun _ _ _ _ h => h) fun cdv A outer s H E hr => (ss_cons (s_asg (d_bin o_add (d_bin o_mul d_int (d_var 1)) d_int) (g_name 2 sc__law_box.nd)) (ss_cons (s_if (t_cmp o_lt (d_var 1) (d_blt c_len (fr_len KX G c) (d_cons (d_var 0) d_nil))) (ss_one (s_asg (d_bin o_mod (d_bty c_int (fr_int KX G c) (d_cons (d_blt c_abs (fr_abs KX G c) (d_cons (d_ix o_ix (d_var 0) (d_var 1)) d_nil)) d_nil)) (d_bin o_mul (d_bin o_mul (d_bin o_pow d_int d_int) (d_bin o_pow d_int d_int)) (d_bin o_pow d_int d_int))) (g_name 2 sc__law_box.nd))) (ss_one (s_if (t_cmp o_gt (d_blt c_len (fr_len KX G c) (d_cons (d_var 0) d_nil)) d_int) (ss_one (s_asg (d_bin o_add (d_var 2) (d_bin o_mul (d_bin o_mod (d_bty c_int (fr_int KX G c) (d_cons (d_blt c_abs (fr_abs KX G c) (d_cons (d_ix o_ix (d_var 0) (d_bin o_mod (d_bty c_int (fr_int KX G c) (d_cons (d_var 1) d_nil)) (d_blt c_len (fr_len KX G c) (d_cons (d_var 0) d_nil)))) d_nil)) d_nil)) d_int) d_int)) (g_name 2 sc__law_box.nd))) ss_nil))) (ss_one (s_ret (d_ce (l_lst (d_cons (d_ix o_ix (d_fz (l_lst (d_cons d_int (d_cons (d_var 2) d_nil)))) (d_bty c_int (fr_int KX G c) (d_cons (d_cmp o_ge (d_var 2) (d_bin o_pow d_int d_int)) d_nil))) (d_cons (d_bin o_add (d_bin o_mod (d_bty c_int (fr_int KX G c) (d_cons (d_bin o_add (d_bin o_mul (d_bin o_mod (d_bty c_int (fr_int KX G c) (d_cons (d_var 2) d_nil)) d_int) d_int) (d_bin o_mul d_int (d_var 1))) d_nil)) d_int) d_int) (d_cons d_int d_nil)))))))))⟩
theorem w__law_box {P : Program} {w : World} {K : PySem.W.Frag} {h : Heap} {mg : Str → Option Value} {base : Heap} (KX : K.In h) (G : h.Ns mainGlobals mg) (c : He.SaysD fa fn K) (he : ex K = true) : Fn P w K mg base (clsOf K cs) 1 "_law_box" 2 F__law_box := by
  obtain ⟨fd, Fd, hok⟩ := ok__law_box (P := P) (w := w) (base := base) KX G c he
  exact Fn.of hok (go__law_box KX G c) Fd.kp (Fd.bindsN fun _ _ _ _ _ _ us hl => match us, hl with | [_, _], _ => rfl)
/-! _law_same -/
def N__law_same : List Str := ["value", "due", "at"]
theorem sc__law_same : FnScope N__law_same ["value", "due"] (defScope s38) := ⟨rfl, rfl, rfl, by decide +kernel, rfl, by decide +kernel, by decide +kernel⟩
noncomputable def B__law_same (rec : FF) : SF := sSeq (sIf (tOrF (tOf (eBin opIs (eVar 1) (eC .non))) (tOrF (tOf (eBin opIs (eVar 1) (eC (.bl true)))) (tOf (eBin opIs (eVar 1) (eC (.bl false)))))) (sRet (eBin opIx (eFz (aMax (aCons (eBin opIs (eVar 0) (eC .non)) (aCons (eBin opIs (eVar 0) (eC (.bl true))) (aCons (eBin opIs (eVar 0) (eC (.bl false))) aNil))))) (eBm isLst mIndex (eFz (aMax (aCons (eC .non) (aCons (eC (.bl true)) (aCons (eC (.bl false)) aNil))))) (aCons (eVar 1) aNil)))) (sNil)) (sSeq (sIf (tOf (eIsi "str" (eVar 1))) (sRet (eAnd (eIsi "str" (eVar 0)) (eBin opEq (eVar 0) (eVar 1)))) (sNil)) (sSeq (sIf (tOf (eIsi "int" (eVar 1))) (sRet (eAnd (eIsi "int" (eVar 0)) (eAnd (eNot (eIsi "bool" (eVar 0))) (eBin opEq (eVar 0) (eVar 1))))) (sNil)) (sSeq (sIf (tOrF (tNotF (tOf (eIsi "tuple" (eVar 0)))) (tOf (eBin opNe (eCall bLen (aCons (eVar 0) aNil)) (eCall bLen (aCons (eVar 1) aNil))))) (sRet (eC (.bl false))) (sNil)) (sRet (eCall bAll (aCons (eFz (aComp (iRg1 (aCons (eCall bLen (aCons (eVar 1) aNil)) aNil)) (gVar 2) tTrue (eDef 2 rec (aCons (eBin opIx (eVar 0) (eVar 2)) (aCons (eBin opIx (eVar 1) (eVar 2)) aNil))) [2])) aNil))))))
noncomputable def F__law_same : Nat → FF
  | 0 => fun _ _ => none
  | n + 1 => runF 3 (B__law_same (F__law_same n))
theorem w__law_same {P : Program} {w : World} {K : PySem.W.Frag} {h : Heap} {mg : Str → Option Value} {base : Heap} (KX : K.In h) (G : h.Ns mainGlobals mg) (c : He.SaysD fa fn K) (he : ex K = true) (n : Nat) : Fn P w K mg base (clsOf K cs) (0 + n) "_law_same" 2 (F__law_same n) := by
  obtain ⟨fd, Fd⟩ := c.def_ 38 (d := d38) rfl
  have hb : Binds K fd ["value", "due"] [] := Fd.bindsN fun _ _ _ _ _ _ us hl => match us, hl with | [_, _], _ => rfl
  induction n with
  | zero => exact Fn.of ok_none (go__law_same KX G c) Fd.kp hb
  | succ n hrec =>
    exact Fn.of (ok_of (N := N__law_same) (ps := ["value", "due"]) (F := F__law_same (n + 1)) (B := B__law_same (F__law_same n)) Fd sc__law_same (fun _ _ _ _ h => h) fun cdv A outer s H E hr => (ss_cons (s_if (PW.pt (t_or (t_cmp o_is (d_var 1) d_non) (t_or (t_cmp o_is (d_var 1) d_bl) (t_or1 (t_cmp o_is (d_var 1) d_bl))))) (ss_one (s_ret (d_ix o_ix (d_fz (l_lst (d_cons (d_cmp o_is (d_var 0) d_non) (d_cons (d_cmp o_is (d_var 0) d_bl) (d_cons (d_cmp o_is (d_var 0) d_bl) d_nil))))) (d_index (d_fz (l_lst (d_cons d_non (d_cons d_bl (d_cons d_bl d_nil))))) (d_var 1))))) ss_nil) (ss_cons (s_if (t_val (d_isi "str" (d_var 1) (fr_isinstance KX G c) (fr_str KX G c))) (ss_one (s_ret (d_and (d_isi "str" (d_var 0) (fr_isinstance KX G c) (fr_str KX G c)) (d_one (d_cmp (o_eq hr.units) (d_var 0) (d_var 1)))))) ss_nil) (ss_cons (s_if (t_val (d_isi "int" (d_var 1) (fr_isinstance KX G c) (fr_int KX G c))) (ss_one (s_ret (d_and (d_isi "int" (d_var 0) (fr_isinstance KX G c) (fr_int KX G c)) (d_and (d_not (d_isi "bool" (d_var 0) (fr_isinstance KX G c) (fr_bool KX G c))) (d_one (d_cmp (o_eq hr.units) (d_var 0) (d_var 1))))))) ss_nil) (ss_cons (s_if (PW.pt (t_or (t_not (t_val (d_isi "tuple" (d_var 0) (fr_isinstance KX G c) (fr_tuple KX G c)))) (t_or1 (t_cmp (o_ne hr.units) (d_blt c_len (fr_len KX G c) (d_cons (d_var 0) d_nil)) (d_blt c_len (fr_len KX G c) (d_cons (d_var 1) d_nil)))))) (ss_one (s_ret d_bl)) ss_nil) (ss_one (s_ret (d_blt (c_all rfl) (fr_all KX G c) (d_cons (d_fz (l_comp [("at", 2)] rfl sc__law_same.nd (i_rg1 (fr_range KX G c) (d_cons (d_blt c_len (fr_len KX G c) (d_cons (d_var 1) d_nil)) d_nil)) (blkOk_by (own := [("at", 2)]) (N := N__law_same) (by kernel_rfl)) (fun _ _ _ _ _ => (v_name 2 sc__law_same.nd)) (fun _ _ _ _ _ => ts_nil) (fun _ _ _ _ _ => (d_def hrec (hr.mono (Nat.le_refl _)) (d_cons (d_ix o_ix (d_var 0) (d_var 2)) (d_cons (d_ix o_ix (d_var 1) (d_var 2)) d_nil)))))) d_nil))))))))) (go__law_same KX G c) Fd.kp hb
/-! _law_newest -/
def N__law_newest : List Str := ["pages", "page"]
theorem sc__law_newest : FnScope N__law_newest ["pages"] (defScope s39) := ⟨rfl, rfl, rfl, by decide +kernel, rfl, by decide +kernel, by decide +kernel⟩
noncomputable def B__law_newest : SF := sRet (eCall bMax (aCons (eFz (aComp (iSeq (eVar 0)) (gVar 1) (tOf (eBin opLt (eVar 1) (eC (.int 500)))) (eVar 1) [1])) aNil))
noncomputable def F__law_newest : FF := runF 2 B__law_newest
theorem ok__law_newest {P : Program} {w : World} {K : PySem.W.Frag} {h : Heap} {mg : Str → Option Value} {base : Heap} (KX : K.In h) (G : h.Ns mainGlobals mg) (c : He.SaysD fa fn K) (he : ex K = true) : ∃ fd, FunD K "_law_newest" "_law_newest" (defArgs s39) (defBody s39) (defScope s39) (d39.dvs K) (d39.kws K) (He.fAd K ("_law_newest", none)) fd ∧ FnOk P w K mg base CX0 1 (He.fAd K ("_law_newest", none)) fd ["pages"] (liftSp ⟨K, clsOf K cs⟩ 1 F__law_newest) := by
  obtain ⟨fd, Fd⟩ := c.def_ 39 (d := d39) rfl
  exact ⟨fd, Fd, ok_of (N := N__law_newest) (ps := ["pages"]) (F := F__law_newest) (B := B__law_newest) Fd sc__law_newest (fun _ _ _ _ h => h) fun cdv A outer s H E hr => (ss_one (s_ret (d_blt (c_max rfl) (fr_max KX G c) (d_cons (d_fz (l_comp [("page", 1)] rfl sc__law_newest.nd (i_seq (d_var 0)) (blkOk_by (own := [("page", 1)]) (N := N__law_newest) (by kernel_rfl)) (fun _ _ _ _ _ => (v_name 1 sc__law_newest.nd)) (fun _ _ _ _ _ => (ts_one (t_cmp o_lt (d_var 1) d_int))) (fun _ _ _ _ _ => (d_var 1)))) d_nil))))⟩
theorem w__law_newest {P : Program} {w : World} {K : PySem.W.Frag} {h : Heap} {mg : Str → Option Value} {base : Heap} (KX : K.In h) (G : h.Ns mainGlobals mg) (c : He.SaysD fa fn K) (he : ex K = true) : Fn P w K mg base (clsOf K cs) 1 "_law_newest" 1 F__law_newest := by
  obtain ⟨fd, Fd, hok⟩ := ok__law_newest (P := P) (w := w) (base := base) KX G c he
  exact Fn.of hok (go__law_newest KX G c) Fd.kp (Fd.bindsN fun _ _ _ _ _ _ us hl => match us, hl with | [_], _ => rfl)
/-! _law_pages -/
def N__law_pages : List Str := ["disk", "found", "rows", "row"]
theorem sc__law_pages : FnScope N__law_pages ["disk"] (defScope s40) := ⟨rfl, rfl, rfl, by decide +kernel, rfl, by decide +kernel, by decide +kernel⟩
noncomputable def B__law_pages : SF := sSeq (sAsg (eFz (aMax aNil)) (gVar 1)) (sSeq (sFor (iSeq (eMeth "Disk" "look" 1 F_Disk_look (eVar 0) aNil)) (gVar 2) (sAsg (eBin opAdd (eVar 1) (eFz (aComp (iSeq (eVar 2)) (gVar 3) (tOf (eBin opNotIn (eBin opIx (eVar 3) (eC (.int 0))) (eVar 1))) (eBin opIx (eVar 3) (eC (.int 0))) [3]))) (gVar 1))) (sRet (eFz (aCall nSorted (aCons (eVar 1) aNil)))))
noncomputable def F__law_pages : FF := runF 4 B__law_pages
theorem ok__law_pages {P : Program} {w : World} {K : PySem.W.Frag} {h : Heap} {mg : Str → Option Value} {base : Heap} (KX : K.In h) (G : h.Ns mainGlobals mg) (c : He.SaysD fa fn K) (he : ex K = true) : ∃ fd, FunD K "_law_pages" "_law_pages" (defArgs s40) (defBody s40) (defScope s40) (d40.dvs K) (d40.kws K) (He.fAd K ("_law_pages", none)) fd ∧ FnOk P w K mg base CX0 2 (He.fAd K ("_law_pages", none)) fd ["disk"] (liftSp ⟨K, clsOf K cs⟩ 1 F__law_pages) := by
  obtain ⟨fd, Fd⟩ := c.def_ 40 (d := d40) rfl
  exact ⟨fd, Fd, ok_of (N := N__law_pages) (ps := ["disk"]) (F := F__law_pages) (B := B__law_pages) Fd sc__law_pages (fun _ _ _ _ h => h) fun cdv A outer s H E hr => (ss_cons (s_asg (d_fz (l_lst d_nil)) (g_name 1 sc__law_pages.nd)) (ss_cons (s_for PassesOwn.never rfl (i_seq (d_meth0 (w_Disk_look KX G c he) hr (d_var 0))) (g_name 2 sc__law_pages.nd) (ss_one (s_asg (d_bin o_add (d_var 1) (d_fz (l_comp [("row", 3)] rfl sc__law_pages.nd (i_seq (d_var 2)) (blkOk_by (own := [("row", 3)]) (N := N__law_pages) (by kernel_rfl)) (fun _ _ _ _ _ => (v_name 3 sc__law_pages.nd)) (fun _ _ _ _ _ => (ts_one (t_cmp (o_notIn (units65 hr)) (d_ix o_ix (d_var 3) d_int) (d_var 1)))) (fun _ _ _ _ _ => (d_ix o_ix (d_var 3) d_int))))) (g_name 1 sc__law_pages.nd)))) (ss_one (s_ret (d_fz (l_blt c_sorted (fr_sorted KX G c) (d_cons (d_var 1) d_nil)))))))⟩
theorem w__law_pages {P : Program} {w : World} {K : PySem.W.Frag} {h : Heap} {mg : Str → Option Value} {base : Heap} (KX : K.In h) (G : h.Ns mainGlobals mg) (c : He.SaysD fa fn K) (he : ex K = true) : Fn P w K mg base (clsOf K cs) 2 "_law_pages" 1 F__law_pages := by
  obtain ⟨fd, Fd, hok⟩ := ok__law_pages (P := P) (w := w) (base := base) KX G c he
  exact Fn.of hok (go__law_pages KX G c) Fd.kp (Fd.bindsN fun _ _ _ _ _ _ us hl => match us, hl with | [_], _ => rfl)
/-! _law_run -/
def N__law_run : List Str := ["disk", "plan", "many", "needed", "gone", "step"]
theorem sc__law_run : FnScope N__law_run ["disk", "plan", "many"] (defScope s41) := ⟨rfl, rfl, rfl, by decide +kernel, rfl, by decide +kernel, by decide +kernel⟩
noncomputable def B__law_run : SF := sSeq (sPar 3 4 (aCons (eCe (aMax aNil)) (aCons (eCe (aMax aNil)) aNil))) (sSeq (sFor (iSeq (eSl (eVar 1) pNo (pSo (eVar 2)))) (gVar 5) (sIf (tOf (eBin opEq (eBin opIx (eVar 5) (eC (.int 0))) (eC (.str "put")))) (sEx (eMeth "Disk" "put" 3 F_Disk_put (eVar 0) (aCons (eBin opIx (eVar 5) (eC (.int 1))) (aCons (eTup (aCons (eBin opIx (eVar 5) (eC (.int 2))) aNil)) aNil)))) (sIf (tOf (eBin opEq (eBin opIx (eVar 5) (eC (.int 0))) (eC (.str "flush")))) (sEx (eMeth "Disk" "flush" 1 F_Disk_flush (eVar 0) aNil)) (sIf (tOf (eBin opEq (eBin opIx (eVar 5) (eC (.int 0))) (eC (.str "need")))) (sEx (eBm isLst mAppend (eVar 3) (aCons (eBin opIx (eVar 5) (eC (.int 1))) aNil))) (sIf (tOf (eBin opEq (eBin opIx (eVar 5) (eC (.int 0))) (eC (.str "free")))) (sEx (eBm isLst mRemove (eVar 3) (aCons (eBin opIx (eVar 5) (eC (.int 1))) aNil))) (sEx (eBm isLst mAppend (eVar 4) (aCons (eBin opIx (eVar 5) (eC (.int 1))) aNil)))))))) (sRet (eTup (aCons (eVar 3) (aCons (eVar 4) aNil)))))
noncomputable def F__law_run : FF := runF 6 B__law_run
theorem ok__law_run {P : Program} {w : World} {K : PySem.W.Frag} {h : Heap} {mg : Str → Option Value} {base : Heap} (KX : K.In h) (G : h.Ns mainGlobals mg) (c : He.SaysD fa fn K) (he : ex K = true) : ∃ fd, FunD K "_law_run" "_law_run" (defArgs s41) (defBody s41) (defScope s41) (d41.dvs K) (d41.kws K) (He.fAd K ("_law_run", none)) fd ∧ FnOk P w K mg base CX0 4 (He.fAd K ("_law_run", none)) fd ["disk", "plan", "many"] (liftSp ⟨K, clsOf K cs⟩ 3 F__law_run) := by
  obtain ⟨fd, Fd⟩ := c.def_ 41 (d := d41) rfl
  exact ⟨fd, Fd, ok_of (N := N__law_run) (ps := ["disk", "plan", "many"]) (F := F__law_run) (B := B__law_run) Fd sc__law_run (fun _ _ _ _ h => h) fun cdv A outer s H E hr => (ss_cons (s_par rfl sc__law_run.nd (i := 3) (j := 4) rfl rfl (by decide) rfl rfl (d_cons (d_ce (l_lst d_nil)) (d_cons (d_ce (l_lst d_nil)) d_nil)) rfl) (ss_cons (s_for PassesOwn.never rfl (i_seq (d_slice (d_var 1) p_no (p_so (d_var 2)))) (g_name 5 sc__law_run.nd) (ss_one (s_if (t_cmp (o_eq hr.units) (d_ix o_ix (d_var 5) d_int) d_str) (ss_one (s_expr (d_meth (w_Disk_put KX G c he) hr (d_var 0) (d_cons (d_ix o_ix (d_var 5) d_int) (d_cons (d_tup (d_cons (d_ix o_ix (d_var 5) d_int) d_nil)) d_nil))))) (ss_one (s_if (t_cmp (o_eq hr.units) (d_ix o_ix (d_var 5) d_int) d_str) (ss_one (s_expr (d_meth0 (w_Disk_flush KX G c he) (hr.mono (by decide)) (d_var 0)))) (ss_one (s_if (t_cmp (o_eq hr.units) (d_ix o_ix (d_var 5) d_int) d_str) (ss_one (s_expr (d_append (d_var 3) (d_ix o_ix (d_var 5) d_int)))) (ss_one (s_if (t_cmp (o_eq hr.units) (d_ix o_ix (d_var 5) d_int) d_str) (ss_one (s_expr (d_remove (d_var 3) (d_ix o_ix (d_var 5) d_int)))) (ss_one (s_expr (d_append (d_var 4) (d_ix o_ix (d_var 5) d_int))))))))))))) (ss_one (s_ret (d_tup (d_cons (d_var 3) (d_cons (d_var 4) d_nil)))))))⟩
theorem w__law_run {P : Program} {w : World} {K : PySem.W.Frag} {h : Heap} {mg : Str → Option Value} {base : Heap} (KX : K.In h) (G : h.Ns mainGlobals mg) (c : He.SaysD fa fn K) (he : ex K = true) : Fn P w K mg base (clsOf K cs) 4 "_law_run" 3 F__law_run := by
  obtain ⟨fd, Fd, hok⟩ := ok__law_run (P := P) (w := w) (base := base) KX G c he
  exact Fn.of hok (go__law_run KX G c) Fd.kp (Fd.bindsN fun _ _ _ _ _ _ us hl => match us, hl with | [_, _, _], _ => rfl)
/-! _law_cut -/
def N__law_cut : List Str := ["box", "slots", "plan", "patience", "many", "disk", "needed", "gone", "pages", "own", "page", "i", "kept_puts", "torn", "place", "kind", "left", "safe"]
theorem sc__law_cut : FnScope N__law_cut ["box", "slots", "plan", "patience", "many"] (defScope s42) := ⟨rfl, rfl, rfl, by decide +kernel, rfl, by decide +kernel, by decide +kernel⟩
noncomputable def B__law_cut : SF := sSeq (sAsg (eMake "Disk" 2 F_Disk___init__ (aCons (eVar 1) aNil)) (gVar 5)) (sSeq (sAsg (eDef 3 F__law_run (aCons (eVar 5) (aCons (eVar 2) (aCons (eVar 4) aNil)))) (gTupF 2 (gConsF (gVar 6) (gConsF (gVar 7) gNilF)))) (sSeq (sAsg (eDef 1 F__law_pages (aCons (eVar 5) aNil)) (gVar 8)) (sSeq (sAsg (eDef 1 F__law_newest (aCons (eBin opAdd (eVar 8) (eFz (aMax (aCons (eC (.int 0)) aNil)))) aNil)) (gVar 9)) (sSeq (sFor (iSeq (eVar 8)) (gVar 10) (sSeq (sAsg (eIf (tOf (eChain opLe opLt (eC (.int 500)) (eVar 10) (eC (.int 1000)))) (eBin opSub (eVar 10) (eC (.int 500))) (eVar 10)) (gVar 11)) (sIf (tAndF (tOf (eBin opLt (eVar 10) (eC (.int 1000)))) (tOrF (tOf (eBin opGt (eVar 11) (eVar 9))) (tNotF (tOf (eDef 2 (F__law_same 3) (aCons (eDef 5 F_counts_at (aCons (eVar 3) (aCons (eC (.int 1)) (aCons (eC (.int 0)) (aCons (eVar 9) (aCons (eVar 11) aNil)))))) (aCons (eC (.bl true)) aNil))))))) (sRet (eC .non)) (sNil)))) (sSeq (sIf (tOf (eCall bAny (aCons (eFz (aComp (iSeq (eVar 7)) (gVar 10) tTrue (eBin opIn (eVar 10) (eVar 8)) [10])) aNil))) (sRet (eC .non)) (sNil)) (sSeq (sPar 12 13 (aCons (eFz (aMax aNil)) (aCons (eFz (aMax aNil)) aNil))) (sSeq (sFor (iRg1 (aCons (eMeth "Disk" "waits" 1 F_Disk_waits (eVar 5) aNil) aNil)) (gVar 14) (sSeq (sAsg (eDef 2 F__law_take (aCons (eVar 0) (aCons (eC (.int 3)) aNil))) (gVar 15)) (sSeq (sAsg (eBin opAdd (eVar 12) (eIf (tOf (eBin opEq (eVar 15) (eC (.int 0)))) (eFz (aMax (aCons (eVar 14) aNil))) (eFz (aMax aNil)))) (gVar 12)) (sAsg (eBin opAdd (eVar 13) (eIf (tOf (eBin opEq (eVar 15) (eC (.int 1)))) (eFz (aMax (aCons (eVar 14) aNil))) (eFz (aMax aNil)))) (gVar 13))))) (sSeq (sEx (eMeth "Disk" "fall" 3 F_Disk_fall (eVar 5) (aCons (eCall bTuple (aCons (eVar 12) aNil)) (aCons (eCall bTuple (aCons (eVar 13) aNil)) aNil)))) (sSeq (sAsg (eDef 1 F__law_pages (aCons (eVar 5) aNil)) (gVar 16)) (sSeq (sIf (tNotF (tOf (eCall bAll (aCons (eFz (aComp (iSeq (eVar 16)) (gVar 10) tTrue (eBin opIn (eVar 10) (eVar 8)) [10])) aNil)))) (sRet (eC .non)) (sNil)) (sSeq (sAsg (eMeth "Disk" "safe" 1 F_Disk_safe (eVar 5) aNil) (gVar 17)) (sSeq (sIf (tNotF (tOf (eCall bAll (aCons (eFz (aComp (iSeq (eVar 6)) (gVar 10) tTrue (eBin opIn (eTup (aCons (eVar 10) aNil)) (eVar 17)) [10])) aNil)))) (sRet (eC .non)) (sNil)) (sRet (eFz (aComp (iSeq (eVar 8)) (gVar 10) (tOf (eBin opLt (eVar 10) (eC (.int 1000)))) (eBin opSub (eVar 9) (eIf (tOf (eChain opLe opLt (eC (.int 500)) (eVar 10) (eC (.int 1000)))) (eBin opSub (eVar 10) (eC (.int 500))) (eVar 10))) [10])))))))))))))))
noncomputable def F__law_cut : FF := dropF (runF 18 B__law_cut)
theorem ok__law_cut {P : Program} {w : World} {K : PySem.W.Frag} {h : Heap} {mg : Str → Option Value} {base : Heap} (KX : K.In h) (G : h.Ns mainGlobals mg) (c : He.SaysD fa fn K) (he : ex K = true) : ∃ fd, FunD K "_law_cut" "_law_cut" (defArgs s42) (defBody s42) (defScope s42) (d42.dvs K) (d42.kws K) (He.fAd K ("_law_cut", none)) fd ∧ FnOk P w K mg base CX0 5 (He.fAd K ("_law_cut", none)) fd ["box", "slots", "plan", "patience", "many"] (liftSp ⟨K, clsOf K cs⟩ 5 F__law_cut) := by
  obtain ⟨fd, Fd⟩ := c.def_ 42 (d := d42) rfl
  exact ⟨fd, Fd, ok_of (N := N__law_cut) (ps := ["box", "slots", "plan", "patience", "many"]) (F := F__law_cut) (B := B__law_cut) Fd sc__law_cut (fun _ _ _ _ h => dropF_C h) fun cdv A outer s H E hr => (ss_cons (s_asg (d_make (w_Disk___init__ KX G c he) hr (d_cons (d_var 1) d_nil)) (g_name 5 sc__law_cut.nd)) (ss_cons (s_asg (d_def (w__law_run KX G c he) hr (d_cons (d_var 5) (d_cons (d_var 2) (d_cons (d_var 4) d_nil)))) (g_tup rfl (gs_cons (g_name 6 sc__law_cut.nd) (gs_cons (g_name 7 sc__law_cut.nd) gs_nil)))) (ss_cons (s_asg (d_def (w__law_pages KX G c he) (hr.mono (by decide)) (d_cons (d_var 5) d_nil)) (g_name 8 sc__law_cut.nd)) (ss_cons (s_asg (d_def (w__law_newest KX G c he) (hr.mono (by decide)) (d_cons (d_bin o_add (d_var 8) (d_fz (l_lst (d_cons d_int d_nil)))) d_nil)) (g_name 9 sc__law_cut.nd)) (ss_cons (s_for PassesOwn.never rfl (i_seq (d_var 8)) (g_name 10 sc__law_cut.nd) (ss_cons (s_asg (d_if (t_chain o_le o_lt d_int (d_var 10) d_int) (d_bin o_sub (d_var 10) d_int) (d_var 10)) (g_name 11 sc__law_cut.nd)) (ss_one (s_if (PW.pt (t_and (t_cmp o_lt (d_var 10) d_int) (t_and1 (PW.pt (t_or (t_cmp o_gt (d_var 11) (d_var 9)) (t_or1 (t_not (t_val (d_def (w__law_same KX G c he 3) (hr.mono (by decide)) (d_cons (d_def (w_counts_at KX G c he) (hr.mono (by decide)) (d_cons (d_var 3) (d_cons d_int (d_cons d_int (d_cons (d_var 9) (d_cons (d_var 11) d_nil)))))) (d_cons d_bl d_nil))))))))))) (ss_one (s_ret d_non)) ss_nil)))) (ss_cons (s_if (t_val (d_blt (c_any rfl) (fr_any KX G c) (d_cons (d_fz (l_comp [("page", 10)] rfl sc__law_cut.nd (i_seq (d_var 7)) (blkOk_by (own := [("page", 10)]) (N := N__law_cut) (by kernel_rfl)) (fun _ _ _ _ _ => (v_name 10 sc__law_cut.nd)) (fun _ _ _ _ _ => ts_nil) (fun _ _ _ _ _ => (d_cmp (o_in (units65 hr)) (d_var 10) (d_var 8))))) d_nil))) (ss_one (s_ret d_non)) ss_nil) (ss_cons (s_par rfl sc__law_cut.nd (i := 12) (j := 13) rfl rfl (by decide) rfl rfl (d_cons (d_fz (l_lst d_nil)) (d_cons (d_fz (l_lst d_nil)) d_nil)) rfl) (ss_cons (s_for PassesOwn.never rfl (i_rg1 (fr_range KX G c) (d_cons (d_meth0 (w_Disk_waits KX G c he) (hr.mono (by decide)) (d_var 5)) d_nil)) (g_name 14 sc__law_cut.nd) (ss_cons (s_asg (d_def (w__law_take KX G c he) (hr.mono (by decide)) (d_cons (d_var 0) (d_cons d_int d_nil))) (g_name 15 sc__law_cut.nd)) (ss_cons (s_asg (d_bin o_add (d_var 12) (d_if (t_cmp (o_eq hr.units) (d_var 15) d_int) (d_fz (l_lst (d_cons (d_var 14) d_nil))) (d_fz (l_lst d_nil)))) (g_name 12 sc__law_cut.nd)) (ss_one (s_asg (d_bin o_add (d_var 13) (d_if (t_cmp (o_eq hr.units) (d_var 15) d_int) (d_fz (l_lst (d_cons (d_var 14) d_nil))) (d_fz (l_lst d_nil)))) (g_name 13 sc__law_cut.nd)))))) (ss_cons (s_expr (d_meth (w_Disk_fall KX G c he) hr (d_var 5) (d_cons (d_bty c_tuple (fr_tuple KX G c) (d_cons (d_var 12) d_nil)) (d_cons (d_bty c_tuple (fr_tuple KX G c) (d_cons (d_var 13) d_nil)) d_nil)))) (ss_cons (s_asg (d_def (w__law_pages KX G c he) (hr.mono (by decide)) (d_cons (d_var 5) d_nil)) (g_name 16 sc__law_cut.nd)) (ss_cons (s_if (t_not (t_val (d_blt (c_all rfl) (fr_all KX G c) (d_cons (d_fz (l_comp [("page", 10)] rfl sc__law_cut.nd (i_seq (d_var 16)) (blkOk_by (own := [("page", 10)]) (N := N__law_cut) (by kernel_rfl)) (fun _ _ _ _ _ => (v_name 10 sc__law_cut.nd)) (fun _ _ _ _ _ => ts_nil) (fun _ _ _ _ _ => (d_cmp (o_in (units65 hr)) (d_var 10) (d_var 8))))) d_nil)))) (ss_one (s_ret d_non)) ss_nil) (ss_cons (s_asg (d_meth0 (w_Disk_safe KX G c he) (hr.mono (by decide)) (d_var 5)) (g_name 17 sc__law_cut.nd)) (ss_cons (s_if (t_not (t_val (d_blt (c_all rfl) (fr_all KX G c) (d_cons (d_fz (l_comp [("page", 10)] rfl sc__law_cut.nd (i_seq (d_var 6)) (blkOk_by (own := [("page", 10)]) (N := N__law_cut) (by kernel_rfl)) (fun _ _ _ _ _ => (v_name 10 sc__law_cut.nd)) (fun _ _ _ _ _ => ts_nil) (fun _ _ _ _ _ => (d_cmp (o_in (units65 hr)) (d_tup (d_cons (d_var 10) d_nil)) (d_var 17))))) d_nil)))) (ss_one (s_ret d_non)) ss_nil) (ss_one (s_ret (d_fz (l_comp [("page", 10)] rfl sc__law_cut.nd (i_seq (d_var 8)) (blkOk_by (own := [("page", 10)]) (N := N__law_cut) (by kernel_rfl)) (fun _ _ _ _ _ => (v_name 10 sc__law_cut.nd)) (fun _ _ _ _ _ => (ts_one (t_cmp o_lt (d_var 10) d_int))) (fun _ _ _ _ _ => (d_bin o_sub (d_var 9) (d_if (t_chain o_le o_lt d_int (d_var 10) d_int) (d_bin o_sub (d_var 10) d_int) (d_var 10)))))))))))))))))))))⟩
theorem w__law_cut {P : Program} {w : World} {K : PySem.W.Frag} {h : Heap} {mg : Str → Option Value} {base : Heap} (KX : K.In h) (G : h.Ns mainGlobals mg) (c : He.SaysD fa fn K) (he : ex K = true) : Fn P w K mg base (clsOf K cs) 5 "_law_cut" 5 F__law_cut := by
  obtain ⟨fd, Fd, hok⟩ := ok__law_cut (P := P) (w := w) (base := base) KX G c he
  exact Fn.of hok (go__law_cut KX G c) Fd.kp (Fd.bindsN fun _ _ _ _ _ _ us hl => match us, hl with | [_, _, _, _, _], _ => rfl)
/-! _law_kept -/
def N__law_kept : List Str := ["box", "slots", "plan", "patience", "oldest", "many", "found"]
theorem sc__law_kept : FnScope N__law_kept ["box", "slots", "plan", "patience"] (defScope s43) := ⟨rfl, rfl, rfl, by decide +kernel, rfl, by decide +kernel, by decide +kernel⟩
noncomputable def B__law_kept : SF := sSeq (sIf (tOrF (tOf (eBin opIsNot (eDef 2 F_plan_fault (aCons (eVar 1) (aCons (eVar 2) aNil))) (eC .non))) (tOf (eBin opIsNot (eDef 2 F_is_plan (aCons (eVar 1) (aCons (eVar 2) aNil))) (eC (.bl true))))) (sRet (eC (.bl false))) (sNil)) (sSeq (sAsg (eC (.int 0)) (gVar 4)) (sSeq (sFor (iRg1 (aCons (eBin opAdd (eCall bLen (aCons (eVar 2) aNil)) (eC (.int 1))) aNil)) (gVar 5) (sIf (tOrF (tOf (eBin opLt (eVar 5) (eC (.int 40)))) (tOf (eBin opEq (eDef 2 F__law_take (aCons (eVar 0) (aCons (eC (.int 3)) aNil))) (eC (.int 0))))) (sSeq (sAsg (eDef 5 F__law_cut (aCons (eVar 0) (aCons (eVar 1) (aCons (eVar 2) (aCons (eVar 3) (aCons (eVar 5) aNil)))))) (gVar 6)) (sSeq (sIf (tOf (eBin opIs (eVar 6) (eC .non))) (sRet (eC (.bl false))) (sNil)) (sAsg (eCall bMax (aCons (eBin opAdd (eFz (aMax (aCons (eVar 4) aNil))) (eVar 6)) aNil)) (gVar 4)))) (sNil))) (sRet (eOr (eBin opEq (eVar 4) (eVar 3)) (eBin opLt (eDef 1 F_flushes_in (aCons (eVar 2) aNil)) (eC (.int 4)))))))
noncomputable def F__law_kept : FF := runF 7 B__law_kept
theorem ok__law_kept {P : Program} {w : World} {K : PySem.W.Frag} {h : Heap} {mg : Str → Option Value} {base : Heap} (KX : K.In h) (G : h.Ns mainGlobals mg) (c : He.SaysD fa fn K) (he : ex K = true) : ∃ fd, FunD K "_law_kept" "_law_kept" (defArgs s43) (defBody s43) (defScope s43) (d43.dvs K) (d43.kws K) (He.fAd K ("_law_kept", none)) fd ∧ FnOk P w K mg base CX0 8 (He.fAd K ("_law_kept", none)) fd ["box", "slots", "plan", "patience"] (liftSp ⟨K, clsOf K cs⟩ 4 F__law_kept) := by
  obtain ⟨fd, Fd⟩ := c.def_ 43 (d := d43) rfl
  exact ⟨fd, Fd, ok_of (N := N__law_kept) (ps := ["box", "slots", "plan", "patience"]) (F := F__law_kept) (B := B__law_kept) Fd sc__law_kept (fun _ _ _ _ h => h) fun cdv A outer s H E hr => (ss_cons (s_if (PW.pt (t_or (t_cmp o_isNot (d_def (w_plan_fault KX G c he) hr (d_cons (d_var 1) (d_cons (d_var 2) d_nil))) d_non) (t_or1 (t_cmp o_isNot (d_def (w_is_plan KX G c he) hr (d_cons (d_var 1) (d_cons (d_var 2) d_nil))) d_bl)))) (ss_one (s_ret d_bl)) ss_nil) (ss_cons (s_asg d_int (g_name 4 sc__law_kept.nd)) (ss_cons (s_for PassesOwn.never rfl (i_rg1 (fr_range KX G c) (d_cons (d_bin o_add (d_blt c_len (fr_len KX G c) (d_cons (d_var 2) d_nil)) d_int) d_nil)) (g_name 5 sc__law_kept.nd) (ss_one (s_if (PW.pt (t_or (t_cmp o_lt (d_var 5) d_int) (t_or1 (t_cmp (o_eq hr.units) (d_def (w__law_take KX G c he) (hr.mono (by decide)) (d_cons (d_var 0) (d_cons d_int d_nil))) d_int)))) (ss_cons (s_asg (d_def (w__law_cut KX G c he) (hr.mono (by decide)) (d_cons (d_var 0) (d_cons (d_var 1) (d_cons (d_var 2) (d_cons (d_var 3) (d_cons (d_var 5) d_nil)))))) (g_name 6 sc__law_kept.nd)) (ss_cons (s_if (t_cmp o_is (d_var 6) d_non) (ss_one (s_ret d_bl)) ss_nil) (ss_one (s_asg (d_blt (c_max rfl) (fr_max KX G c) (d_cons (d_bin o_add (d_fz (l_lst (d_cons (d_var 4) d_nil))) (d_var 6)) d_nil)) (g_name 4 sc__law_kept.nd))))) ss_nil))) (ss_one (s_ret (d_or (d_cmp (o_eq hr.units) (d_var 4) (d_var 3)) (d_one (d_cmp o_lt (d_def (w_flushes_in KX G c he) (hr.mono (by decide)) (d_cons (d_var 2) d_nil)) d_int))))))))⟩
theorem w__law_kept {P : Program} {w : World} {K : PySem.W.Frag} {h : Heap} {mg : Str → Option Value} {base : Heap} (KX : K.In h) (G : h.Ns mainGlobals mg) (c : He.SaysD fa fn K) (he : ex K = true) : Fn P w K mg base (clsOf K cs) 8 "_law_kept" 4 F__law_kept := by
  obtain ⟨fd, Fd, hok⟩ := ok__law_kept (P := P) (w := w) (base := base) KX G c he
  exact Fn.of hok (go__law_kept KX G c) Fd.kp (Fd.bindsN fun _ _ _ _ _ _ us hl => match us, hl with | [_, _, _, _], _ => rfl)
/-! _law_added -/
def N__law_added : List Str := ["box", "slots", "plan", "disk", "i", "fault"]
theorem sc__law_added : FnScope N__law_added ["box"] (defScope s44) := ⟨rfl, rfl, rfl, by decide +kernel, rfl, by decide +kernel, by decide +kernel⟩
noncomputable def B__law_added : SF := sSeq (sAsg (eBin opAdd (eC (.int 2)) (eDef 2 F__law_take (aCons (eVar 0) (aCons (eC (.int 12)) aNil)))) (gVar 1)) (sSeq (sPar 2 3 (aCons (eFz (aMax aNil)) (aCons (eMake "Disk" 2 F_Disk___init__ (aCons (eVar 1) aNil)) aNil))) (sSeq (sFor (iRg1 (aCons (eVar 1) aNil)) (gVar 4) (sSeq (sAsg (eBin opAdd (eBin opAdd (eVar 2) (eFz (aMax (aCons (eTup (aCons (eC (.str "put")) (aCons (eVar 4) (aCons (eVar 4) aNil)))) (aCons (eTup (aCons (eC (.str "flush")) aNil)) (aCons (eTup (aCons (eC (.str "need")) (aCons (eVar 4) aNil))) aNil)))))) (eIf (tOf (eBin opGt (eVar 4) (eC (.int 0)))) (eFz (aMax (aCons (eTup (aCons (eC (.str "free")) (aCons (eBin opSub (eVar 4) (eC (.int 1))) aNil))) aNil))) (eFz (aMax aNil)))) (gVar 2)) (sSeq (sEx (eDef 3 F__law_run (aCons (eVar 3) (aCons (eIf (tOf (eBin opGt (eVar 4) (eC (.int 0)))) (eSl (eVar 2) (pSo (eUn opNeg (eC (.int 4)))) pNo) (eVar 2)) (aCons (eC (.int 2)) aNil))))) (sIf (tOrF (tOf (eBin opNe (eDef 1 F__law_pages (aCons (eVar 3) aNil)) (eFz (rgF (aCons (eBin opAdd (eVar 4) (eC (.int 1))) aNil))))) (tOf (eBin opIsNot (eMeth "Disk" "shows" 2 F_Disk_shows (eVar 3) (aCons (eTup (aCons (eC (.int 0)) aNil)) aNil)) (eC (.bl true))))) (sRet (eC (.bl false))) (sNil))))) (sSeq (sIf (tOf (eBin opIsNot (eDef 2 F_plan_fault (aCons (eVar 1) (aCons (eCall bTuple (aCons (eVar 2) aNil)) aNil))) (eC .non))) (sRet (eC (.bl false))) (sNil)) (sSeq (sAsg (eDef 2 F_plan_fault (aCons (eVar 1) (aCons (eBin opAdd (eCall bTuple (aCons (eVar 2) aNil)) (eTup (aCons (eTup (aCons (eC (.str "gone")) (aCons (eC (.int 0)) aNil))) aNil))) aNil))) (gVar 5)) (sRet (eAnd (eBin opIsNot (eVar 5) (eC .non)) (eDef 2 (F__law_same 3) (aCons (eTup (aCons (eFld ["PlanFault"] "cut" (eVar 5)) (aCons (eFld ["PlanFault"] "word" (eVar 5)) (aCons (eFld ["PlanFault"] "page" (eVar 5)) aNil)))) (aCons (eTup (aCons (eBin opAdd (eCall bLen (aCons (eVar 2) aNil)) (eC (.int 1))) (aCons (eC (.str "seen")) (aCons (eC (.int 0)) aNil)))) aNil)))))))))
noncomputable def F__law_added : FF := dropF (runF 6 B__law_added)
theorem ok__law_added {P : Program} {w : World} {K : PySem.W.Frag} {h : Heap} {mg : Str → Option Value} {base : Heap} (KX : K.In h) (G : h.Ns mainGlobals mg) (c : He.SaysD fa fn K) (he : ex K = true) : ∃ fd, FunD K "_law_added" "_law_added" (defArgs s44) (defBody s44) (defScope s44) (d44.dvs K) (d44.kws K) (He.fAd K ("_law_added", none)) fd ∧ FnOk P w K mg base CX0 8 (He.fAd K ("_law_added", none)) fd ["box"] (liftSp ⟨K, clsOf K cs⟩ 1 F__law_added) := by
  obtain ⟨fd, Fd⟩ := c.def_ 44 (d := d44) rfl
  exact ⟨fd, Fd, ok_of (N := N__law_added) (ps := ["box"]) (F := F__law_added) (B := B__law_added) Fd sc__law_added (fun _ _ _ _ h => dropF_C h) fun cdv A outer s H E hr => (ss_cons (s_asg (d_bin o_add d_int (d_def (w__law_take KX G c he) (hr.mono (by decide)) (d_cons (d_var 0) (d_cons d_int d_nil)))) (g_name 1 sc__law_added.nd)) (ss_cons (s_par rfl sc__law_added.nd (i := 2) (j := 3) rfl rfl (by decide) rfl rfl (d_cons (d_fz (l_lst d_nil)) (d_cons (d_make (w_Disk___init__ KX G c he) (hr.mono (by decide)) (d_cons (d_var 1) d_nil)) d_nil)) rfl) (ss_cons (s_for PassesOwn.never rfl (i_rg1 (fr_range KX G c) (d_cons (d_var 1) d_nil)) (g_name 4 sc__law_added.nd) (ss_cons (s_asg (d_bin o_add (d_bin o_add (d_var 2) (d_fz (l_lst (d_cons (d_tup (d_cons d_str (d_cons (d_var 4) (d_cons (d_var 4) d_nil)))) (d_cons (d_tup (d_cons d_str d_nil)) (d_cons (d_tup (d_cons d_str (d_cons (d_var 4) d_nil))) d_nil)))))) (d_if (t_cmp o_gt (d_var 4) d_int) (d_fz (l_lst (d_cons (d_tup (d_cons d_str (d_cons (d_bin o_sub (d_var 4) d_int) d_nil))) d_nil))) (d_fz (l_lst d_nil)))) (g_name 2 sc__law_added.nd)) (ss_cons (s_expr (d_def (w__law_run KX G c he) (hr.mono (by decide)) (d_cons (d_var 3) (d_cons (d_if (t_cmp o_gt (d_var 4) d_int) (d_slice (d_var 2) (p_so (d_un o_neg d_int)) p_no) (d_var 2)) (d_cons d_int d_nil))))) (ss_one (s_if (PW.pt (t_or (t_cmp (o_ne hr.units) (d_def (w__law_pages KX G c he) (hr.mono (by decide)) (d_cons (d_var 3) d_nil)) (d_fz (l_listRg1 rfl (fr_list KX G c) (fr_range KX G c) (d_bin o_add (d_var 4) d_int)))) (t_or1 (t_cmp o_isNot (d_meth (w_Disk_shows KX G c he) (hr.mono (by decide)) (d_var 3) (d_cons (d_tup (d_cons d_int d_nil)) d_nil)) d_bl)))) (ss_one (s_ret d_bl)) ss_nil))))) (ss_cons (s_if (t_cmp o_isNot (d_def (w_plan_fault KX G c he) hr (d_cons (d_var 1) (d_cons (d_bty c_tuple (fr_tuple KX G c) (d_cons (d_var 2) d_nil)) d_nil))) d_non) (ss_one (s_ret d_bl)) ss_nil) (ss_cons (s_asg (d_def (w_plan_fault KX G c he) hr (d_cons (d_var 1) (d_cons (d_bin o_add (d_bty c_tuple (fr_tuple KX G c) (d_cons (d_var 2) d_nil)) (d_tup (d_cons (d_tup (d_cons d_str (d_cons d_int d_nil))) d_nil))) d_nil))) (g_name 5 sc__law_added.nd)) (ss_one (s_ret (d_and (d_cmp o_isNot (d_var 5) d_non) (d_one (d_def (w__law_same KX G c he 3) (hr.mono (by decide)) (d_cons (d_tup (d_cons (d_fld (fo_cut c) (d_var 5)) (d_cons (d_fld (fo_word c) (d_var 5)) (d_cons (d_fld (fo_page c) (d_var 5)) d_nil)))) (d_cons (d_tup (d_cons (d_bin o_add (d_blt c_len (fr_len KX G c) (d_cons (d_var 2) d_nil)) d_int) (d_cons d_str (d_cons d_int d_nil)))) d_nil))))))))))))⟩
theorem w__law_added {P : Program} {w : World} {K : PySem.W.Frag} {h : Heap} {mg : Str → Option Value} {base : Heap} (KX : K.In h) (G : h.Ns mainGlobals mg) (c : He.SaysD fa fn K) (he : ex K = true) : Fn P w K mg base (clsOf K cs) 8 "_law_added" 1 F__law_added := by
  obtain ⟨fd, Fd, hok⟩ := ok__law_added (P := P) (w := w) (base := base) KX G c he
  exact Fn.of hok (go__law_added KX G c) Fd.kp (Fd.bindsN fun _ _ _ _ _ _ us hl => match us, hl with | [_], _ => rfl)
/-! _law_crews -/
def N__law_crews : List Str := ["box", "k", "l", "maps", "plan", "slots", "patience", "ends", "looks", "shown", "own", "x", "disk", "many", "lots", "told", "i", "found", "least", "pages"]
theorem sc__law_crews : FnScope N__law_crews ["box"] (defScope s45) := ⟨rfl, rfl, rfl, by decide +kernel, rfl, by decide +kernel, by decide +kernel⟩
noncomputable def B__law_crews : SF := sSeq (sAsg (eTup (aCons (eBin opAdd (eC (.int 1)) (eDef 2 F__law_take (aCons (eVar 0) (aCons (eC (.int 12)) aNil)))) (aCons (eDef 2 F__law_take (aCons (eVar 0) (aCons (eC (.int 4)) aNil))) (aCons (eBin opAdd (eC (.int 2)) (eDef 2 F__law_take (aCons (eVar 0) (aCons (eC (.int 5)) aNil)))) aNil)))) (gTupF 3 (gConsF (gVar 1) (gConsF (gVar 2) (gConsF (gVar 3) gNilF))))) (sSeq (sAsg (eDef 2 F__law_pick (aCons (eVar 0) (aCons (eFz (aMax (aCons (eTup (aCons (eDef 1 F_prompt_plan (aCons (eVar 3) aNil)) (aCons (eC (.int 2)) (aCons (eC (.int 1)) aNil)))) (aCons (eTup (aCons (eDef 1 F_lagging_plan (aCons (eVar 3) aNil)) (aCons (eC (.int 2)) (aCons (eC (.int 2)) aNil)))) aNil)))) aNil))) (gTupF 3 (gConsF (gVar 4) (gConsF (gVar 5) (gConsF (gVar 6) gNilF))))) (sSeq (sAsg (eFz (aComp (iRg2 (aCons (eC (.int 1)) (aCons (eBin opAdd (eCall bLen (aCons (eVar 4) aNil)) (eC (.int 1))) aNil))) (gVar 13) (tOf (eBin opEq (eBin opIx (eVar 4) (eBin opSub (eVar 13) (eC (.int 1)))) (eTup (aCons (eC (.str "flush")) aNil)))) (eVar 13) [13])) (gVar 7)) (sSeq (sPar 8 9 (aCons (eCe (aMax aNil)) (aCons (eCe (aMax aNil)) aNil))) (sSeq (sFor (iRg1 (aCons (eBin opAdd (eVar 3) (eC (.int 1))) aNil)) (gVar 10) (sFor (iSeq (eDef 3 F__law_part (aCons (eVar 0) (aCons (eFz (rgF (aCons (eVar 1) aNil))) (aCons (eCall bMin (aCons (eVar 1) (aCons (eVar 2) aNil))) aNil))))) (gVar 11) (sSeq (sAsg (eMake "Disk" 2 F_Disk___init__ (aCons (eVar 5) aNil)) (gVar 12)) (sSeq (sAsg (eIf (tOrF (tOf (eBin opEq (eVar 6) (eC (.int 2)))) (tOf (eBin opEq (eVar 10) (eC (.int 0))))) (eBin opIx (eVar 7) (eVar 10)) (eBin opIx (eVar 7) (eBin opSub (eBin opMul (eC (.int 2)) (eVar 10)) (eC (.int 1))))) (gVar 13)) (sSeq (sEx (eDef 3 F__law_run (aCons (eVar 12) (aCons (eVar 4) (aCons (eBin opSub (eVar 13) (eDef 2 F__law_take (aCons (eVar 0) (aCons (eC (.int 2)) aNil)))) aNil))))) (sSeq (sEx (eBm isLst mAppend (eVar 8) (aCons (eTup (aCons (eVar 11) (aCons (eVar 10) aNil))) aNil))) (sEx (eBm isLst mAppend (eVar 9) (aCons (eTup (aCons (eVar 11) (aCons (eDef 1 F__law_pages (aCons (eVar 12) aNil)) aNil))) aNil))))))))) (sSeq (sAsg (eCall bTuple (aCons (eFz (aComp (iRg1 (aCons (eBin opAdd (eVar 3) (eC (.int 1))) aNil)) (gVar 16) tTrue (eRgT (aCons (eVar 1) aNil)) [16])) aNil)) (gVar 14)) (sSeq (sAsg (eDef 5 F_counted_long (aCons (eVar 14) (aCons (eVar 6) (aCons (eC (.int 1)) (aCons (eC (.int 0)) (aCons (eCall bTuple (aCons (eVar 8) aNil)) aNil)))))) (gVar 15)) (sSeq (sFor (iRg1 (aCons (eBin opAdd (eVar 3) (eC (.int 1))) aNil)) (gVar 16) (sSeq (sAsg (eFz (aSortedSet (eFz (aComp (iSeq (eVar 9)) (gTupF 2 (gConsF (gVar 11) (gConsF (gVar 19) gNilF))) (tOf (eBin opIn (eVar 16) (eVar 19))) (eVar 11) [11, 19])))) (gVar 17)) (sSeq (sIf (tOrF (tNotF (tOf (eIsi "tuple" (eVar 15)))) (tNotF (tOf (eCall bAll (aCons (eFz (aComp (iSeq (eVar 17)) (gVar 11) tTrue (eBin opIn (eVar 11) (eBin opIx (eVar 15) (eVar 16))) [11])) aNil))))) (sRet (eC (.bl false))) (sNil)) (sIf (tOf (eBin opGt (eCall bLen (aCons (eBin opIx (eVar 15) (eVar 16)) aNil)) (eDef 6 F_most_counted (aCons (eVar 1) (aCons (eC (.int 0)) (aCons (eVar 2) (aCons (eVar 6) (aCons (eC (.int 1)) (aCons (eC (.int 0)) aNil))))))))) (sRet (eC (.bl false))) (sNil))))) (sSeq (sAsg (eBin opAdd (eBin opAdd (eBin opMul (eC (.int 3)) (eC (.int 1))) (eBin opMul (eVar 2) (eBin opAdd (eVar 6) (eC (.int 1))))) (eC (.int 1))) (gVar 18)) (sRet (eAnd (eBin opIs (eDef 2 F_is_spread (aCons (eCall bTuple (aCons (eVar 8) aNil)) (aCons (eVar 2) aNil))) (eC (.bl true))) (eDef 2 (F__law_same 3) (aCons (eDef 5 (dfl [.bl false] F_kept_copies) (aCons (eC (.int 1)) (aCons (eVar 2) (aCons (eVar 6) (aCons (eC (.int 1)) (aCons (eC (.int 0)) aNil)))))) (aCons (eVar 18) aNil)))))))))))))
noncomputable def F__law_crews : FF := dropF (runF 20 B__law_crews)
theorem ok__law_crews {P : Program} {w : World} {K : PySem.W.Frag} {h : Heap} {mg : Str → Option Value} {base : Heap} (KX : K.In h) (G : h.Ns mainGlobals mg) (c : He.SaysD fa fn K) (he : ex K = true) : ∃ fd, FunD K "_law_crews" "_law_crews" (defArgs s45) (defBody s45) (defScope s45) (d45.dvs K) (d45.kws K) (He.fAd K ("_law_crews", none)) fd ∧ FnOk P w K mg base CX0 5 (He.fAd K ("_law_crews", none)) fd ["box"] (liftSp ⟨K, clsOf K cs⟩ 1 F__law_crews) := by
  obtain ⟨fd, Fd⟩ := c.def_ 45 (d := d45) rfl
  exact ⟨fd, Fd, ok_of (N := N__law_crews) (ps := ["box"]) (F := F__law_crews) (B := B__law_crews) Fd sc__law_crews (fun _ _ _ _ h => dropF_C h) fun cdv A outer s H E hr => (ss_cons (s_asg (d_tup (d_cons (d_bin o_add d_int (d_def (w__law_take KX G c he) (hr.mono (by decide)) (d_cons (d_var 0) (d_cons d_int d_nil)))) (d_cons (d_def (w__law_take KX G c he) (hr.mono (by decide)) (d_cons (d_var 0) (d_cons d_int d_nil))) (d_cons (d_bin o_add d_int (d_def (w__law_take KX G c he) (hr.mono (by decide)) (d_cons (d_var 0) (d_cons d_int d_nil)))) d_nil)))) (g_tup rfl (gs_cons (g_name 1 sc__law_crews.nd) (gs_cons (g_name 2 sc__law_crews.nd) (gs_cons (g_name 3 sc__law_crews.nd) gs_nil))))) (ss_cons (s_asg (d_def (w__law_pick KX G c he) (hr.mono (by decide)) (d_cons (d_var 0) (d_cons (d_fz (l_lst (d_cons (d_tup (d_cons (d_def (w_prompt_plan KX G c he) (hr.mono (by decide)) (d_cons (d_var 3) d_nil)) (d_cons d_int (d_cons d_int d_nil)))) (d_cons (d_tup (d_cons (d_def (w_lagging_plan KX G c he) (hr.mono (by decide)) (d_cons (d_var 3) d_nil)) (d_cons d_int (d_cons d_int d_nil)))) d_nil)))) d_nil))) (g_tup rfl (gs_cons (g_name 4 sc__law_crews.nd) (gs_cons (g_name 5 sc__law_crews.nd) (gs_cons (g_name 6 sc__law_crews.nd) gs_nil))))) (ss_cons (s_setLc [("many", 13)] rfl sc__law_crews.nd (i := 7) rfl rfl rfl (i_rg2 (fr_range KX G c) (d_cons d_int (d_cons (d_bin o_add (d_blt c_len (fr_len KX G c) (d_cons (d_var 4) d_nil)) d_int) d_nil))) (blkOk_by (own := [("many", 13)]) (N := N__law_crews) (by kernel_rfl)) (fun _ _ _ _ _ => (v_name 13 sc__law_crews.nd)) (fun _ _ _ _ _ => (ts_one (t_cmp (o_eq hr.units) (d_ix o_ix (d_var 4) (d_bin o_sub (d_var 13) d_int)) (d_tup (d_cons d_str d_nil))))) (fun _ _ _ _ _ => (d_var 13)) (hfl := fz_imp)) (ss_cons (s_par rfl sc__law_crews.nd (i := 8) (j := 9) rfl rfl (by decide) rfl rfl (d_cons (d_ce (l_lst d_nil)) (d_cons (d_ce (l_lst d_nil)) d_nil)) rfl) (ss_cons (s_for PassesOwn.never rfl (i_rg1 (fr_range KX G c) (d_cons (d_bin o_add (d_var 3) d_int) d_nil)) (g_name 10 sc__law_crews.nd) (ss_one (s_for PassesOwn.never rfl (i_seq (d_def (w__law_part KX G c he) (hr.mono (by decide)) (d_cons (d_var 0) (d_cons (d_fz (l_listRg1 rfl (fr_list KX G c) (fr_range KX G c) (d_var 1))) (d_cons (d_blt (c_min rfl) (fr_min KX G c) (d_cons (d_var 1) (d_cons (d_var 2) d_nil))) d_nil))))) (g_name 11 sc__law_crews.nd) (ss_cons (s_asg (d_make (w_Disk___init__ KX G c he) hr (d_cons (d_var 5) d_nil)) (g_name 12 sc__law_crews.nd)) (ss_cons (s_asg (d_if (PW.pt (t_or (t_cmp (o_eq hr.units) (d_var 6) d_int) (t_or1 (t_cmp (o_eq hr.units) (d_var 10) d_int)))) (d_ix o_ix (d_var 7) (d_var 10)) (d_ix o_ix (d_var 7) (d_bin o_sub (d_bin o_mul d_int (d_var 10)) d_int))) (g_name 13 sc__law_crews.nd)) (ss_cons (s_expr (d_def (w__law_run KX G c he) hr (d_cons (d_var 12) (d_cons (d_var 4) (d_cons (d_bin o_sub (d_var 13) (d_def (w__law_take KX G c he) (hr.mono (by decide)) (d_cons (d_var 0) (d_cons d_int d_nil)))) d_nil))))) (ss_cons (s_expr (d_append (d_var 8) (d_tup (d_cons (d_var 11) (d_cons (d_var 10) d_nil))))) (ss_one (s_expr (d_append (d_var 9) (d_tup (d_cons (d_var 11) (d_cons (d_def (w__law_pages KX G c he) (hr.mono (by decide)) (d_cons (d_var 12) d_nil)) d_nil))))))))))))) (ss_cons (s_asg (d_bty c_tuple (fr_tuple KX G c) (d_cons (d_fz (l_comp [("i", 16)] rfl sc__law_crews.nd (i_rg1 (fr_range KX G c) (d_cons (d_bin o_add (d_var 3) d_int) d_nil)) (blkOk_by (own := [("i", 16)]) (N := N__law_crews) (by kernel_rfl)) (fun _ _ _ _ _ => (v_name 16 sc__law_crews.nd)) (fun _ _ _ _ _ => ts_nil) (fun _ _ _ _ _ => (d_tupRg1 rfl (fr_tuple KX G c) (fr_range KX G c) (d_var 1))))) d_nil)) (g_name 14 sc__law_crews.nd)) (ss_cons (s_asg (d_def (w_counted_long KX G c he) (hr.mono (by decide)) (d_cons (d_var 14) (d_cons (d_var 6) (d_cons d_int (d_cons d_int (d_cons (d_bty c_tuple (fr_tuple KX G c) (d_cons (d_var 8) d_nil)) d_nil)))))) (g_name 15 sc__law_crews.nd)) (ss_cons (s_for PassesOwn.never rfl (i_rg1 (fr_range KX G c) (d_cons (d_bin o_add (d_var 3) d_int) d_nil)) (g_name 16 sc__law_crews.nd) (ss_cons (s_asg (d_fz (l_sortedSet rfl (fr_sorted KX G c) (fr_set KX G c) (d_fz (l_comp [("x", 11), ("pages", 19)] rfl sc__law_crews.nd (i_seq (d_var 9)) (blkOk_by (own := [("x", 11), ("pages", 19)]) (N := N__law_crews) (by kernel_rfl)) (fun _ _ _ _ _ => (v_tup rfl (vs_cons (v_name 11 sc__law_crews.nd) (vs_cons (v_name 19 sc__law_crews.nd) vs_nil)))) (fun _ _ _ _ _ => (ts_one (t_cmp (o_in (units65 hr)) (d_var 16) (d_var 19)))) (fun _ _ _ _ _ => (d_var 11)))))) (g_name 17 sc__law_crews.nd)) (ss_cons (s_if (PW.pt (t_or (t_not (t_val (d_isi "tuple" (d_var 15) (fr_isinstance KX G c) (fr_tuple KX G c)))) (t_or1 (t_not (t_val (d_blt (c_all rfl) (fr_all KX G c) (d_cons (d_fz (l_comp [("x", 11)] rfl sc__law_crews.nd (i_seq (d_var 17)) (blkOk_by (own := [("x", 11)]) (N := N__law_crews) (by kernel_rfl)) (fun _ _ _ _ _ => (v_name 11 sc__law_crews.nd)) (fun _ _ _ _ _ => ts_nil) (fun _ _ _ _ _ => (d_cmp (o_in (units65 hr)) (d_var 11) (d_ix o_ix (d_var 15) (d_var 16)))))) d_nil))))))) (ss_one (s_ret d_bl)) ss_nil) (ss_one (s_if (t_cmp o_gt (d_blt c_len (fr_len KX G c) (d_cons (d_ix o_ix (d_var 15) (d_var 16)) d_nil)) (d_def (w_most_counted KX G c he) (hr.mono (by decide)) (d_cons (d_var 1) (d_cons d_int (d_cons (d_var 2) (d_cons (d_var 6) (d_cons d_int (d_cons d_int d_nil)))))))) (ss_one (s_ret d_bl)) ss_nil))))) (ss_cons (s_asg (d_bin o_add (d_bin o_add (d_bin o_mul d_int d_int) (d_bin o_mul (d_var 2) (d_bin o_add (d_var 6) d_int))) d_int) (g_name 18 sc__law_crews.nd)) (ss_one (s_ret (d_and (d_cmp o_is (d_def (w_is_spread KX G c he) (hr.mono (by decide)) (d_cons (d_bty c_tuple (fr_tuple KX G c) (d_cons (d_var 8) d_nil)) (d_cons (d_var 2) d_nil))) d_bl) (d_one (d_def (w__law_same KX G c he 3) (hr.mono (by decide)) (d_cons (d_def (w_kept_copies_5 KX G c he) (hr.mono (by decide)) (d_cons d_int (d_cons (d_var 2) (d_cons (d_var 6) (d_cons d_int (d_cons d_int d_nil)))))) (d_cons (d_var 18) d_nil))))))))))))))))⟩
theorem w__law_crews {P : Program} {w : World} {K : PySem.W.Frag} {h : Heap} {mg : Str → Option Value} {base : Heap} (KX : K.In h) (G : h.Ns mainGlobals mg) (c : He.SaysD fa fn K) (he : ex K = true) : Fn P w K mg base (clsOf K cs) 5 "_law_crews" 1 F__law_crews := by
  obtain ⟨fd, Fd, hok⟩ := ok__law_crews (P := P) (w := w) (base := base) KX G c he
  exact Fn.of hok (go__law_crews KX G c) Fd.kp (Fd.bindsN fun _ _ _ _ _ _ us hl => match us, hl with | [_], _ => rfl)
/-! law -/
def N_law : List Str := ["script", "box", "maps", "plan", "slots", "patience"]
theorem sc_law : FnScope N_law ["script"] (defScope s46) := ⟨rfl, rfl, rfl, by decide +kernel, rfl, by decide +kernel, by decide +kernel⟩
noncomputable def B_law : SF := sSeq (sAsg (eDef 2 F__law_box (aCons (eVar 0) (aCons (eC (.int 0)) aNil))) (gVar 1)) (sSeq (sAsg (eDef 2 F__law_take (aCons (eVar 1) (aCons (eC (.int 9)) aNil))) (gVar 2)) (sSeq (sFor (iSeq (eFz (aMax (aCons (eTup (aCons (eDef 1 F_prompt_plan (aCons (eVar 2) aNil)) (aCons (eC (.int 2)) (aCons (eC (.int 1)) aNil)))) (aCons (eTup (aCons (eDef 1 F_lagging_plan (aCons (eVar 2) aNil)) (aCons (eC (.int 2)) (aCons (eC (.int 2)) aNil)))) (aCons (eTup (aCons (eDef 1 F_dealing_plan (aCons (eCall bMin (aCons (eVar 2) (aCons (eC (.int 4)) aNil))) aNil)) (aCons (eC (.int 3)) (aCons (eC (.int 1)) aNil)))) aNil)))))) (gTupF 3 (gConsF (gVar 3) (gConsF (gVar 4) (gConsF (gVar 5) gNilF)))) (sIf (tNotF (tOf (eDef 4 F__law_kept (aCons (eVar 1) (aCons (eVar 4) (aCons (eVar 3) (aCons (eVar 5) aNil))))))) (sRet (eC (.bl false))) (sNil))) (sSeq (sIf (tOrF (tNotF (tOf (eDef 2 (F__law_same 3) (aCons (eDef 3 F_kept (aCons (eC (.int 1)) (aCons (eC (.int 1)) (aCons (eC (.int 0)) aNil)))) (aCons (eC (.int 2)) aNil))))) (tNotF (tOf (eDef 2 (F__law_same 3) (aCons (eDef 3 F_kept (aCons (eC (.int 2)) (aCons (eC (.int 1)) (aCons (eC (.int 0)) aNil)))) (aCons (eC (.int 3)) aNil)))))) (sRet (eC (.bl false))) (sNil)) (sRet (eAnd (eDef 1 F__law_added (aCons (eVar 1) aNil)) (eAnd (eDef 1 F__law_crews (aCons (eVar 1) aNil)) (eDef 1 F__law_crews (aCons (eDef 2 F__law_box (aCons (eVar 0) (aCons (eC (.int 1)) aNil))) aNil))))))))
noncomputable def F_law : FF := runF 6 B_law
theorem ok_law {P : Program} {w : World} {K : PySem.W.Frag} {h : Heap} {mg : Str → Option Value} {base : Heap} (KX : K.In h) (G : h.Ns mainGlobals mg) (c : He.SaysD fa fn K) (he : ex K = true) : ∃ fd, FunD K "law" "law" (defArgs s46) (defBody s46) (defScope s46) (d46.dvs K) (d46.kws K) (He.fAd K ("law", none)) fd ∧ FnOk P w K mg base CX0 9 (He.fAd K ("law", none)) fd ["script"] (liftSp ⟨K, clsOf K cs⟩ 1 F_law) := by
  obtain ⟨fd, Fd⟩ := c.def_ 46 (d := d46) rfl
  exact ⟨fd, Fd, ok_of (N := N_law) (ps := ["script"]) (F := F_law) (B := B_law) Fd sc_law (fun _ _ _ _ h => h) fun cdv A outer s H E hr => (ss_cons (s_asg (d_def (w__law_box KX G c he) (hr.mono (by decide)) (d_cons (d_var 0) (d_cons d_int d_nil))) (g_name 1 sc_law.nd)) (ss_cons (s_asg (d_def (w__law_take KX G c he) (hr.mono (by decide)) (d_cons (d_var 1) (d_cons d_int d_nil))) (g_name 2 sc_law.nd)) (ss_cons (s_for PassesOwn.never rfl (i_seq (d_fz (l_lst (d_cons (d_tup (d_cons (d_def (w_prompt_plan KX G c he) (hr.mono (by decide)) (d_cons (d_var 2) d_nil)) (d_cons d_int (d_cons d_int d_nil)))) (d_cons (d_tup (d_cons (d_def (w_lagging_plan KX G c he) (hr.mono (by decide)) (d_cons (d_var 2) d_nil)) (d_cons d_int (d_cons d_int d_nil)))) (d_cons (d_tup (d_cons (d_def (w_dealing_plan KX G c he) (hr.mono (by decide)) (d_cons (d_blt (c_min rfl) (fr_min KX G c) (d_cons (d_var 2) (d_cons d_int d_nil))) d_nil)) (d_cons d_int (d_cons d_int d_nil)))) d_nil)))))) (g_tup rfl (gs_cons (g_name 3 sc_law.nd) (gs_cons (g_name 4 sc_law.nd) (gs_cons (g_name 5 sc_law.nd) gs_nil)))) (ss_one (s_if (t_not (t_val (d_def (w__law_kept KX G c he) hr (d_cons (d_var 1) (d_cons (d_var 4) (d_cons (d_var 3) (d_cons (d_var 5) d_nil))))))) (ss_one (s_ret d_bl)) ss_nil))) (ss_cons (s_if (PW.pt (t_or (t_not (t_val (d_def (w__law_same KX G c he 3) (hr.mono (by decide)) (d_cons (d_def (w_kept KX G c he) (hr.mono (by decide)) (d_cons d_int (d_cons d_int (d_cons d_int d_nil)))) (d_cons d_int d_nil))))) (t_or1 (t_not (t_val (d_def (w__law_same KX G c he 3) (hr.mono (by decide)) (d_cons (d_def (w_kept KX G c he) (hr.mono (by decide)) (d_cons d_int (d_cons d_int (d_cons d_int d_nil)))) (d_cons d_int d_nil)))))))) (ss_one (s_ret d_bl)) ss_nil) (ss_one (s_ret (d_and (d_def (w__law_added KX G c he) hr (d_cons (d_var 1) d_nil)) (d_and (d_def (w__law_crews KX G c he) (hr.mono (by decide)) (d_cons (d_var 1) d_nil)) (d_one (d_def (w__law_crews KX G c he) (hr.mono (by decide)) (d_cons (d_def (w__law_box KX G c he) (hr.mono (by decide)) (d_cons (d_var 0) (d_cons d_int d_nil))) d_nil)))))))))))⟩
end W95

namespace W95
open PySem PySem.Spec PyProof.Rows L2 DZ
variable {S : Store}
theorem r_kept {d r q : Int} : F_kept [.int d, .int r, .int q] S = some (.int (d + r + q), S) := by
  simp [F_kept, B_kept, runF]
theorem r_is_integer {d : Int} : F_is_integer [.int d] S = some (.bl true, S) := by
  simp [F_is_integer, B_is_integer, runF]
theorem r_is_number {v m : Int} : F_is_number [.int v, .int m] S = some (.bl (decide (0 ≤ v) && decide (v ≤ m)), S) := by
  simp [F_is_number, B_is_number, runF, r_is_integer]
  cases h : decide (0 ≤ v) <;> simp
theorem r_pens_from {d own : Int} (h : (max 0 (own - d)).natAbs < 2 ^ 40) : F_pens_from [.int d, .int 1, .int own] S = some (.int (max 0 (own - d)), S) := by
  have e : (if d < own then own - d else 0) = max 0 (own - d) := by split <;> omega
  have m := mul_ok (S := S) (i := 1) (j := max 0 (own - d)) 40 40 (by decide) h (by decide)
  simp [F_pens_from, B_pens_from, runF, e, m, -ev_mul]
def countsAt (d own i : Int) : Bool := (decide (i ≤ own) && decide (own ≤ i + d)) || (decide (max 0 (own - d) ≤ i) && decide (i < own + 1))
theorem r_counts_at {d own i : Int} (h : (max 0 (own - d)).natAbs < 2 ^ 40) (h' : own.natAbs < 2 ^ 40) : F_counts_at [.int d, .int 1, .int 0, .int own, .int i] S = some (.bl (countsAt d own i), S) := by
  have m := mul_ok (S := S) (i := 1) (j := own) 40 40 (by decide) h' (by decide)
  simp [F_counts_at, B_counts_at, runF, r_pens_from h, countsAt, m, -ev_mul]
  cases h : decide (i ≤ own) <;> cases h2 : decide (own ≤ i + d) <;> cases h3 : decide (max 0 (own - d) ≤ i) <;> simp_all
theorem r_most_counted {k l d : Int} (h : l.natAbs < 2 ^ 40) (hd : (d + 1).natAbs < 2 ^ 40): F_most_counted [.int k, .int 0, .int l, .int d, .int 1, .int 0] S = some (.int (if l * (d + 1) < k then l * (d + 1) else k), S) := by
  simp [F_most_counted, B_most_counted, runF, r_kept, mul_ok 40 40 h hd]
theorem r_kept_copies {l d : Int} (h : l.natAbs < 2 ^ 40) (hd : (d + 1).natAbs < 2 ^ 40): dfl [.bl false] F_kept_copies [.int 1, .int l, .int d, .int 1, .int 0] S = some (.int (3 + l * (d + 1) + 1), S) := by
  simp [dfl, F_kept_copies, B_kept_copies, runF, r_kept, mul_ok 40 40 h hd, mul_ok (i := 3) (j := 1) 40 40 (by decide) (by decide)]
theorem r_same_true {n : Nat} {b : Bool} : F__law_same (n + 1) [.bl b, .bl true] S = some (.bl b, S) := by
  simp [F__law_same, B__law_same, runF, mIndex, flatD, eqFD, List.findIdx?, List.findIdx?.go, atI, ixN]
theorem r_same_int {n : Nat} {a b : Int} : F__law_same (n + 1) [.int a, .int b] S = some (.bl (decide (a = b)), S) := by
  simp [F__law_same, B__law_same, runF]
theorem r_same_str {n : Nat} {a b : Str} : F__law_same (n + 1) [.str a, .str b] S = some (.bl (decide (a = b)), S) := by
  simp [F__law_same, B__law_same, runF]
theorem r_same3 {n : Nat} {a b : Int} {s : Str} : F__law_same (n + 2) [.tup [.int a, .str s, .int b], .tup [.int a, .str s, .int b]] S = some (.bl true, S) := by
  rw [F__law_same]
  have rk : rngOk 3 := ⟨by decide, by decide⟩
  simp [rk, B__law_same, runF, rngD, List.range_succ, compGo, atI, ixN, r_same_int, r_same_str, blsOf]

/-! ### the disk -/
abbrev Cel := Option (Option Int)
structure Dk where
  cells : List Cel
  traces : List (List Int)
  queue : List (Nat × Int)
def eR (p : Int) : D := .tup [.int p]
def eCel : Cel → D
  | none => .non
  | some none => .tup [.str "torn"]
  | some (some p) => eR p
def eT (rows : List Int) : D := .lst (rows.map eR)
def eQ (q : Nat × Int) : D := .tup [.int (q.1 : Nat), eR q.2]
structure DkAt (S : Store) (n i j k : Nat) (d : Dk) : Prop where
  o : S[n]? = some (.ins "Disk" [("cells", .loc i), ("traces", .loc j), ("queue", .loc k)])
  c : S[i]? = some (.lst (d.cells.map eCel))
  t : S[j]? = some (.lst (d.traces.map eT))
  q : S[k]? = some (.lst (d.queue.map eQ))
  ij : i ≠ j
  ik : i ≠ k
  jk : j ≠ k
theorem DkAt.ni {n i j k : Nat} {d : Dk} (h : DkAt S n i j k d) : n ≠ i := by rintro rfl; have := h.o.symm.trans h.c; simp at this
theorem DkAt.nj {n i j k : Nat} {d : Dk} (h : DkAt S n i j k d) : n ≠ j := by rintro rfl; have := h.o.symm.trans h.t; simp at this
theorem DkAt.nk {n i j k : Nat} {d : Dk} (h : DkAt S n i j k d) : n ≠ k := by rintro rfl; have := h.o.symm.trans h.q; simp at this
theorem r_put {n i j k : Nat} {d : Dk} {a : Nat} {p : Int} (h : DkAt S n i j k d) (ha : a < d.cells.length) (hq : d.queue.length < 1000000) :
    F_Disk_put [.loc n, .int (a : Nat), eR p] S = some (.non, S.set k (.lst ((d.queue ++ [(a, p)]).map eQ))) := by
  have e1 := ins_loc h.o
  have e2 := rd_loc h.c
  have e3 := locOf_loc h.q
  have e4 := lst_loc h.q
  have h1 : (a : Int) ≤ (d.cells.length : Int) - 1 := by omega
  simp [F_Disk_put, B_Disk_put, runF, e1, e2, e4, r_is_number, h1, eR, mAppend, e3, hq, eQ]
end W95

namespace W95
open PySem PySem.Spec PyProof.Rows L2 DZ
variable {S : Store}
def Dk.new (m : Nat) : Dk := ⟨List.replicate m none, List.replicate m [], []⟩
def dkFs (L : Nat) : List (Str × D) := [("cells", .loc (L + 1)), ("traces", .loc (L + 2)), ("queue", .loc (L + 3))]
def dkNew (L m : Nat) : List Cell := [.ins "Disk" (dkFs L), .lst ((Dk.new m).cells.map eCel), .lst ((Dk.new m).traces.map eT), .lst ((Dk.new m).queue.map eQ)]
theorem r_disk {m : Nat} (h0 : 0 < m) (hm : m ≤ 400) :
    F_Disk___init__ [.loc S.length, .int (m : Nat)] (S ++ [.ins "Disk" []]) = some (.non, S ++ dkNew S.length m) := by
  have h1 : (m : Int) ≤ 400 := by omega
  have h2 : (m : Int) ≠ 0 := by omega
  have h3 : ¬ m = 0 := by omega
  have h4 : (m : Int) ≤ 1000000 := by omega
  have h5 : (-1000000 : Int) ≤ m := by omega
  have h6 : m ≤ 1000000 := by omega
  have rk := rk_nat h6
  have l1 : (List.range m).length = m := by simp
  simp [F_Disk___init__, B_Disk___init__, runF, r_is_number, h1, h3, rk, rngD_eq, h6]
  rw [comp_mapT (fun i : Nat => D.int (i : Int)) (fun _ => D.non) (by simp) _ (by intro x hx; simp)]
  simp [rk, h6, rngD_eq]
  rw [comp_mapT (fun i : Nat => D.int (i : Int)) (fun _ => D.lst []) (by simp) _ (by intro x hx; simp)]
  simp [dkNew, dkFs, Dk.new, eT, eCel, List.map_const']
theorem r_size {n i j k : Nat} {d : Dk} (h : DkAt S n i j k d) : F_Disk_size [.loc n] S = some (.int d.cells.length, S) := by
  simp [F_Disk_size, B_Disk_size, runF, ins_loc h.o, rd_loc h.c]
theorem r_safe {n i j k : Nat} {d : Dk} (h : DkAt S n i j k d) : F_Disk_safe [.loc n] S = some (.tup (d.cells.map eCel), S) := by
  simp [F_Disk_safe, B_Disk_safe, runF, ins_loc h.o, rd_loc h.c]
theorem r_waits {n i j k : Nat} {d : Dk} (h : DkAt S n i j k d) : F_Disk_waits [.loc n] S = some (.int d.queue.length, S) := by
  simp [F_Disk_waits, B_Disk_waits, runF, ins_loc h.o, rd_loc h.q]
def Dk.lay (d : Dk) (q : Nat × Int) : Dk := ⟨d.cells.set q.1 (some (some q.2)), d.traces.set q.1 [q.2], d.queue⟩
theorem ixN_nat {n a : Nat} (h : a < n) : ixN n (a : Int) = some a := by unfold ixN; simp [h]
theorem r_lay {n i j k : Nat} {d : Dk} {a : Nat} {p : Int} (h : DkAt S n i j k d) (ha : a < d.cells.length) (hb : a < d.traces.length) :
    ∃ S', F_Disk_lay [.loc n, .int (a : Nat), eR p] S = some (.non, S') ∧ DkAt S' n i j k (d.lay (a, p)) ∧ Chg [i, j] S S' := by
  have o2 : (S.set i (.lst ((d.cells.map eCel).set a (eR p))))[n]? = some (.ins "Disk" [("cells", .loc i), ("traces", .loc j), ("queue", .loc k)]) := (List.getElem?_set_ne h.ni.symm).trans h.o
  have t2 : (S.set i (.lst ((d.cells.map eCel).set a (eR p))))[j]? = some (.lst (d.traces.map eT)) := (List.getElem?_set_ne h.ij).trans h.t
  refine ⟨(S.set i (.lst ((d.cells.map eCel).set a (eR p)))).set j (.lst ((d.traces.map eT).set a (.lst [eR p]))), ?_, ⟨?_, ?_, ?_, ?_, h.ij, h.ik, h.jk⟩, ?_⟩
  · simp [F_Disk_lay, B_Disk_lay, runF, ins_loc h.o, locOf_loc h.c, ixN_nat ha, ins_loc o2, locOf_loc t2, ixN_nat hb]
  · rw [List.getElem?_set_ne h.nj.symm]; exact o2
  · rw [List.getElem?_set_ne h.ij.symm, List.getElem?_set_self (lt_of_get h.c)]
    simp [Dk.lay, eCel]
  · rw [List.getElem?_set_self (by rw [List.length_set]; exact lt_of_get h.t)]
    simp [Dk.lay, eT]
  · rw [List.getElem?_set_ne h.jk, List.getElem?_set_ne h.ik]; exact h.q
  · exact (Chg.set (by simp)).trans (Chg.set (X := [i, j]) (by simp)) fun m _ h => h
structure Dk.Wf (d : Dk) (m : Nat) : Prop where
  c : d.cells.length = m
  t : d.traces.length = m
  q : ∀ x ∈ d.queue, x.1 < m
theorem Dk.Wf.lay {d : Dk} {m : Nat} {x : Nat × Int} (h : d.Wf m) : (d.lay x).Wf m := ⟨by simp [Dk.lay, h.c], by simp [Dk.lay, h.t], h.q⟩
theorem Dk.Wf.lays {m : Nat} : ∀ (l : List (Nat × Int)) {d : Dk}, d.Wf m → (l.foldl Dk.lay d).Wf m
  | [], _, h => h
  | x :: l, _, h => Dk.Wf.lays l h.lay
theorem Dk.lays_queue : ∀ (l : List (Nat × Int)) {d : Dk}, (l.foldl Dk.lay d).queue = d.queue
  | [], _ => rfl
  | x :: l, d => Dk.lays_queue l (d := d.lay x)
def Dk.flush (d : Dk) : Dk := { d.queue.foldl Dk.lay d with queue := [] }
theorem r_flush {n i j k m : Nat} {d : Dk} (h : DkAt S n i j k d) (wf : d.Wf m) :
    Ok (F_Disk_flush [.loc n] S) fun r => r.1 = .non ∧ ∃ k', S.length ≤ k' ∧ DkAt r.2 n i j k' d.flush ∧ Chg [n, i, j] S r.2 := by
  simp [F_Disk_flush, B_Disk_flush, runF, ins_loc h.o, src_loc h.q]
  refine for_ex0 (fun t ρ S' => ∃ o1 o2, ρ = [some (.loc n), o1, o2] ∧ DkAt S' n i j k ((d.queue.take t).foldl Dk.lay d) ∧ Chg [i, j] S S') _ ⟨none, none, rfl, h, .refl⟩ ?_ ?_
  · rintro t x ρ S' hx ⟨o1, o2, rfl, h', f'⟩
    obtain ⟨y, e1, rfl⟩ := map_at hx
    have wf' := wf.lays (d.queue.take t)
    have hy := wf.q y (List.mem_of_getElem? e1)
    obtain ⟨S2, e2, h2, f2⟩ := r_lay (p := y.2) h' (by rw [wf'.c]; exact hy) (by rw [wf'.t]; exact hy)
    have hq := h'.q
    rw [Dk.lays_queue] at hq
    refine ⟨by simpa using hq, ?_⟩
    simp [eQ, ins_loc h'.o, e2]
    refine ⟨?_, f'.trans f2 fun m _ h => h⟩
    rw [List.take_succ, e1]
    simpa [List.foldl_append] using h2
  · rintro ρ S' ⟨o1, o2, rfl, h', f'⟩
    have hq := h'.q
    rw [Dk.lays_queue] at hq
    refine ⟨by simpa using hq, ?_⟩
    rw [List.length_map, List.take_length] at h'
    have hn := lt_of_get h'.o
    simp [List.getElem?_append_left hn, h'.o]
    have hi := lt_of_get h'.c
    have hj := lt_of_get h'.t
    refine ⟨S'.length, f'.le, ⟨?_, ?_, ?_, ?_, h.ij, by omega, by omega⟩, ?_⟩
    · rw [List.getElem?_set_self (by simp; omega)]
    · rw [List.getElem?_set_ne h.ni, List.getElem?_append_left hi]; exact h'.c
    · rw [List.getElem?_set_ne h.nj, List.getElem?_append_left hj]; exact h'.t
    · rw [List.getElem?_set_ne (by omega)]; simp [Dk.flush]
    · exact ((f'.app (Chg.add (X := []))).app (Chg.set (X := [n]) (by simp))).mono fun m h => by simp at h ⊢; omega
/-! ### what a disk shows -/
def dstep (h : List Int) (r : Int) : List Int := if r ∈ h then h else h ++ [r]
def dedup (xs : List Int) : List Int := xs.foldl dstep []
def Dk.look (d : Dk) : List (List Int) := d.traces.zipIdx.map fun x => dedup (x.1 ++ (d.queue.filter (fun q => decide (q.1 = x.2))).map (·.2))
theorem pl_eR {p : Int} : pl 60 (eR p) = true := rfl
theorem eR_inj (a b : Int) (e : eR a = eR b) : a = b := by simpa [eR] using e
theorem in_eR {l : List Int} {p : Int} : inD S (eR p) (.lst (l.map eR)) = some (decide (p ∈ l)) := by
  rw [in_plL pl_eR (all_pl fun _ _ => pl_eR), in_enc eR_inj]
theorem in_eRT {l : List Int} {p : Int} : inD S (eR p) (.tup (l.map eR)) = some (decide (p ∈ l)) := by
  rw [in_plT pl_eR (all_pl fun _ _ => pl_eR), in_enc eR_inj]
theorem in_eRC {l : List Int} {p : Int} {n : Nat} (h : S[n]? = some (.lst (l.map eR))) : inD S (eR p) (.loc n) = some (decide (p ∈ l)) := by
  rw [in_plC h pl_eR (all_pl fun _ _ => pl_eR), in_enc eR_inj]
def eHere (l : List Int) : D := .tup (l.map eR)
theorem dedup_take {xs : List Int} {t : Nat} {x : Int} (h : xs[t]? = some x) : dedup (xs.take (t + 1)) = dstep (dedup (xs.take t)) x := foldl_take h
theorem length_dedup : ∀ (xs h : List Int), (xs.foldl dstep h).length ≤ h.length + xs.length
  | [], h => by simp
  | x :: xs, h => by
    have := length_dedup xs (dstep h x)
    have e : (dstep h x).length ≤ h.length + 1 := by unfold dstep; split <;> simp
    simp only [List.foldl_cons, List.length_cons]
    omega
def Dk.showsAt (d : Dk) (at_ : Nat) : List Int := (d.queue.filter (fun q => decide (q.1 = at_))).map (·.2)
structure Dk.Sm (d : Dk) : Prop where
  q : d.queue.length < 1000
  t : ∀ rows ∈ d.traces, rows.length < 1000
  n : d.traces.length < 100
theorem r_look {n i j k : Nat} {d : Dk} (h : DkAt S n i j k d) (sm : d.Sm) :
    F_Disk_look [.loc n] S = some (.tup (d.look.map eHere), S) := by
  refine drop_same ?_
  have hn := lt_of_get h.o
  have hi := lt_of_get h.c
  have hj := lt_of_get h.t
  have hk := lt_of_get h.q
  have o1 : ∀ {S' : Store}, Chg [] S S' → S'[n]? = some (.ins "Disk" [("cells", .loc i), ("traces", .loc j), ("queue", .loc k)]) := fun c => c.get h.o (by simp)
  have t1 : ∀ {S' : Store}, Chg [] S S' → S'[j]? = some (.lst (d.traces.map eT)) := fun c => c.get h.t (by simp)
  have q1 : ∀ {S' : Store}, Chg [] S S' → S'[k]? = some (.lst (d.queue.map eQ)) := fun c => c.get h.q (by simp)
  simp [B_Disk_look, runF, ins_loc (o1 Chg.add), src_loc (t1 Chg.add)]
  refine for_ex0 (fun t ρ S' => ∃ o2 o3 o4 o5 o6, ρ = [some (.loc n), some (.loc S.length), o2, o3, o4, o5, o6] ∧ S'[S.length]? = some (.lst ((d.look.take t).map eHere)) ∧ Chg [] S S') _ ⟨none, none, none, none, none, rfl, by simp, Chg.add⟩ ?_ ?_
  · rintro t x ρ S' hx ⟨o2, o3, o4, o5, o6, rfl, hf, c⟩
    obtain ⟨rows, e1, rfl⟩ := enum_at' hx
    refine ⟨by simpa using t1 c, ?_⟩
    have hlt := lt_of_get hf
    have c1 : Chg [] S (S' ++ [.lst []]) := c.push
    have hr := sm.t rows (List.mem_of_getElem? e1)
    have hq6 : d.queue.length ≤ 1000000 := by have := sm.q; omega
    have hc : compGo (Src.ok ⟨d.queue.map eQ, [(k, .lst (d.queue.map eQ))]⟩) (gTupF 2 (gConsF (gVar 6) (gConsF (gVar 5) gNilF))) (tOf (eBin opEq (eVar 6) (eVar 2))) (eVar 5) [some (.loc n), some (.loc S.length), some (.int (t : Nat)), some (.lst (rows.map eR)), some (.loc S'.length), none, none] (d.queue.map eQ) (S' ++ [.lst []]) = some ((d.showsAt t).map eR, S' ++ [.lst []]) := by
      rw [comp_map eQ (fun q => decide (q.1 = t)) (fun q => eR q.2) (by simpa using q1 c1) d.queue fun q hq => ⟨[some (.loc n), some (.loc S.length), some (.int (t : Nat)), some (.lst (rows.map eR)), some (.loc S'.length), some (eR q.2), some (.int (q.1 : Nat))], by simp [eQ], by simp [Int.natCast_inj], fun _ => by simp⟩]
      simp [Dk.showsAt]
    have hl0 : rows.length + (d.showsAt t).length < 2000 := by
      have := List.length_filter_le (fun q : Nat × Int => decide (q.1 = t)) d.queue
      have := sm.q
      simp only [Dk.showsAt, List.length_map]
      omega
    have hl1 : rows.length + (d.showsAt t).length ≤ 1000000 := by omega
    simp [ins_loc (o1 c1), src_loc (q1 c1), hc, eT, hq6, hl1]
    rw [← List.map_append]
    refine for_ex0 (fun u ρ S2 => ∃ o5 o6, ρ = [some (.loc n), some (.loc S.length), some (.int (t : Nat)), some (.lst (rows.map eR)), some (.loc S'.length), o5, o6] ∧ S2[S'.length]? = some (.lst ((dedup ((rows ++ d.showsAt t).take u)).map eR)) ∧ Chg [S'.length] (S' ++ [.lst []]) S2) _ ⟨_, _, rfl, by simp [dedup], .refl⟩ ?_ ?_
    · rintro u x ρ S2 hx ⟨p5, p6, rfl, hh, c2⟩
      obtain ⟨y, e2, rfl⟩ := map_at hx
      refine ⟨by simp, ?_⟩
      have hlen : (dedup ((rows ++ d.showsAt t).take u)).length < 1000000 := by
        have := length_dedup ((rows ++ d.showsAt t).take u) []
        have h2 : ((rows ++ d.showsAt t).take u).length ≤ rows.length + (d.showsAt t).length := by rw [List.length_take, List.length_append]; omega
        have e : dedup ((rows ++ d.showsAt t).take u) = ((rows ++ d.showsAt t).take u).foldl dstep [] := rfl
        rw [e]
        simp only [List.length_nil] at this
        omega
      simp [in_eRC hh]
      have h2 := lt_of_get hh
      by_cases hy : y ∈ dedup ((rows ++ d.showsAt t).take u)
      · simp [hy, dedup_take e2, dstep, hh, c2]
      · simp [hy, dedup_take e2, dstep, hh, lst_loc hh, mAppend, locOf_loc hh, hlen, h2, c2.wr (n := S'.length) (.inl (by simp))]
    · rintro ρ S2 ⟨p5, p6, rfl, hh, c2⟩
      refine ⟨by simp, ?_⟩
      have hh' : S2[S'.length]? = some (.lst ((dedup (rows ++ d.showsAt t)).map eR)) := by rw [List.length_map, List.take_length] at hh; exact hh
      have f2 : S2[S.length]? = some (.lst ((d.look.take t).map eHere)) := c2.get (List.getElem?_append_left hlt ▸ hf) (by simp; omega)
      have hlk : d.look[t]? = some (dedup (rows ++ d.showsAt t)) := by
        simp [Dk.look, e1, Dk.showsAt]
      have hl2 : min t d.look.length < 1000000 := by
        have := sm.n
        simp [Dk.look]; omega
      have hs2 : S.length < S2.length := lt_of_get f2
      have c3 : Chg [] S S2 := ⟨by omega, fun m hm _ => (c2.at_ m (by simp; omega) (by simp; omega)).trans (c1.at_ m hm (by simp))⟩
      simp [lst_loc f2, rd_loc hh', mAppend, locOf_loc f2, hs2, eHere, ← List.map_take, map_take hlk, c3.wr (n := S.length) (.inr (Nat.le_refl _)), hl2]
  · rintro ρ S' ⟨o2, o3, o4, o5, o6, rfl, hf, c⟩
    refine ⟨by simpa using t1 c, ?_⟩
    have hf' : S'[S.length]? = some (.lst (d.look.map eHere)) := by
      have : (enumD 0 (d.traces.map eT)).length = d.look.length := by simp [enumD_length, Dk.look]
      rw [this, List.take_length] at hf
      exact hf
    simp [rd_loc hf', c]
    refine frz_pl 5 _ ?_
    show (d.look.map eHere).all (pl 4) = true
    simp only [List.all_map, List.all_eq_true]
    intro x hx
    show (x.map eR).all (pl 3) = true
    simp only [List.all_map, List.all_eq_true]
    intro y hy
    rfl
end W95

namespace W95
open PySem PySem.Spec PyProof.Rows L2 DZ
variable {S : Store}
/-! ### the draws -/
def BoxC (N : Nat) (c : Cell) : Prop := ∃ x y z : Int, c = .lst [.int x, .int y, .int z] ∧ 0 ≤ x ∧ x < 10 ^ 180 ∧ 0 ≤ y ∧ y < 2 ^ 40 ∧ 0 ≤ z ∧ z ≤ N
theorem BoxC.bel {N n : Nat} {c : Cell} (h : BoxC N c) : c.bel n := by
  obtain ⟨x, y, z, rfl, _⟩ := h
  simp [Cell.bel, D.belL, D.bel]
theorem BoxC.mono {M N : Nat} {c : Cell} (h : BoxC M c) (hn : M ≤ N) : BoxC N c := by
  obtain ⟨x, y, z, e, a1, a2, a3, a4, a5, a6⟩ := h
  exact ⟨x, y, z, e, a1, a2, a3, a4, a5, by omega⟩
theorem sm_abs {x : Int} {k : Nat} (h0 : 0 ≤ x) (h : x < 2 ^ k) : x.natAbs < 2 ^ k := by
  have : ((x.natAbs : Nat) : Int) = x := Int.natAbs_of_nonneg h0
  have h2 : ((x.natAbs : Nat) : Int) < ((2 ^ k : Nat) : Int) := by rw [this]; push_cast; exact h
  exact Int.ofNat_lt.mp h2
theorem ixI {n : Nat} {i : Int} (h0 : 0 ≤ i) (h : i < n) : ixN n i = some i.toNat := by
  obtain ⟨a, rfl⟩ := Int.eq_ofNat_of_zero_le h0
  rw [ixN_nat (by omega)]; simp
theorem atI3_0 {a b c : D} : atI [a, b, c] 0 = some a := rfl
theorem atI3_1 {a b c : D} : atI [a, b, c] 1 = some b := rfl
theorem atI3_2 {a b c : D} : atI [a, b, c] 2 = some c := rfl
theorem r_take {b N : Nat} {c : Cell} {m : Nat} (hb : S[b]? = some c) (hc : BoxC N c) (hN : N < 2 ^ 60) (hm : 0 < m) (hm2 : m < 2 ^ 40) :
    ∃ (dg : Nat) (c' : Cell), F__law_take [.loc b, .int (m : Nat)] S = some (.int (dg : Nat), S.set b c') ∧ BoxC (N + 1) c' ∧ dg < m := by
  obtain ⟨x, y, z, rfl, x0, x1, y0, y1, z0, z1⟩ := hc
  have hlt := lt_of_get hb
  have hm0 : (0 : Int) < (m : Int) := by omega
  have md : ∀ i : Int, ∃ dg : Nat, i % (m : Int) = (dg : Nat) ∧ dg < m := fun i => by
    have h1 := Int.emod_nonneg i (Int.ne_of_gt hm0)
    have h2 := Int.emod_lt_of_pos i hm0
    exact ⟨(i % (m : Int)).toNat, by omega, by omega⟩
  by_cases hx : 0 < x
  · obtain ⟨dg, e, hd⟩ := md x
    refine ⟨dg, .lst [.int (x / m), .int y, .int z], ?_, ⟨_, _, _, rfl, ?_, ?_, y0, y1, z0, by omega⟩, hd⟩
    · have f : opFdiv (.int x) (.int (m : Nat)) S = some (.int (x / m), S) := fdiv_ok 40 hm0 (by simpa using hm2) (by decide)
      simp [F__law_take, B__law_take, runF, rd_loc hb, locOf_loc hb, atI3_0, hx, hm0, hm, f, e, -ev_fdiv, ixN]
    · exact Int.ediv_nonneg x0 (by omega)
    · have : x / (m : Int) ≤ x := Int.ediv_le_self _ x0
      omega
  · have hx0 : x = 0 := by omega
    subst hx0
    have hb1 : (S.set b (.lst [.int 0, .int y, .int (z + 1)]))[b]? = some (.lst [.int 0, .int y, .int (z + 1)]) := List.getElem?_set_self hlt
    have p1 : (2 : Int) ^ 60 = 1152921504606846976 := by decide
    have p2 : (2 : Int) ^ 40 = 1099511627776 := by decide
    have hz : z + 1 < 2 ^ 61 := by
      have : (N : Int) < 2 ^ 60 := by exact_mod_cast hN
      omega
    have m1 : ∀ S', opMul (.int 70003) (.int (z + 1)) S' = some (.int (70003 * (z + 1)), S') := fun S' => mul_ok 20 61 (by decide) (sm_abs (by omega) hz) (by decide)
    have m2 : ∀ S', opMul (.int (y + 70003 * (z + 1))) (.int 50051) S' = some (.int ((y + 70003 * (z + 1)) * 50051), S') := fun S' => mul_ok 90 20 (sm_abs (by omega) (by omega)) (by decide) (by decide)
    generalize hr : ((y + 70003 * (z + 1)) * 50051 + 307) % 2147483543 = r
    have r0 : 0 ≤ r := by omega
    have r1 : r < 2147483543 := by omega
    have m3 : ∀ S', opMul (.int r) (.int 40013) S' = some (.int (r * 40013), S') := fun S' => mul_ok 40 20 (sm_abs r0 (by omega)) (by decide) (by decide)
    generalize hy : (r * 40013 + 30011) % 2147483629 + 1 = y2
    have y20 : 0 ≤ y2 := by omega
    have y21 : y2 < 2147483631 := by omega
    have m4 : ∀ S', opMul (.int r) (.int 2147483647) S' = some (.int (r * 2147483647), S') := fun S' => mul_ok 40 40 (sm_abs r0 (by omega)) (by decide) (by decide)
    have f1 : ∀ S', opFdiv (.int (r * 2147483647 + y2)) (.int 4099) S' = some (.int ((r * 2147483647 + y2) / 4099), S') := fun S' => fdiv_ok 40 (by decide) (by decide) (by decide)
    obtain ⟨dg, e, hd⟩ := md ((r * 2147483647 + y2) / 4099)
    refine ⟨dg, .lst [.int 0, .int y2, .int (z + 1)], ?_, ⟨_, _, _, rfl, by decide, by decide, y20, by omega, by omega, by omega⟩, hd⟩
    have hb2 : (S.set b (.lst [.int 0, .int y2, .int (z + 1)]))[b]? = some (.lst [.int 0, .int y2, .int (z + 1)]) := List.getElem?_set_self hlt
    simp [F__law_take, B__law_take, runF, rd_loc hb, locOf_loc hb, rd_loc hb1, locOf_loc hb1, rd_loc hb2, atI3_0, atI3_1, atI3_2, hm, m1, m2, hr, m3, hy, m4, f1, e, -ev_fdiv, -ev_mul, ixN, List.set_set]
theorem atI_get {ns : List Int} {i : Int} (h0 : 0 ≤ i) (h : i < ns.length) : ∃ v, atI (ns.map D.int) i = some (.int v) := by
  obtain ⟨a, rfl⟩ := Int.eq_ofNat_of_zero_le h0
  have ha : a < ns.length := by omega
  exact ⟨ns[a], DZ.atI_nat (by simp [ha])⟩
theorem r_box {ns : List Int} {k : Nat} (hk : k < 10) : ∃ c, F__law_box [.scr ns, .int (k : Nat)] S = some (.loc S.length, S ++ [c]) ∧ BoxC 0 c := by
  obtain ⟨M2, hM2⟩ : ∃ M2 : Int, M2 = 1000000000000000000000000000000000000000000000000000000000000 * 1000000000000000000000000000000000000000000000000000000000000 := ⟨_, rfl⟩
  obtain ⟨M, hM⟩ : ∃ M : Int, M = M2 * 1000000000000000000000000000000000000000000000000000000000000 := ⟨_, rfl⟩
  have M180 : M = 10 ^ 180 := by rw [hM, hM2]; decide +kernel
  have Mpos : 0 < M := by rw [M180]; decide +kernel
  have m1 : ∀ S', opMul (.int 1000000000000000000000000000000000000000000000000000000000000) (.int 1000000000000000000000000000000000000000000000000000000000000) S' = some (.int M2, S') := fun S' => by rw [hM2]; exact mul_ok 200 200 (by decide +kernel) (by decide +kernel) (by decide)
  have m2 : ∀ S', opMul (.int M2) (.int 1000000000000000000000000000000000000000000000000000000000000) S' = some (.int M, S') := fun S' => by rw [hM, hM2]; exact mul_ok 400 200 (by decide +kernel) (by decide +kernel) (by decide)
  have m3 : ∀ S', opMul (.int 6007) (.int k) S' = some (.int (6007 * k), S') := fun S' => mul_ok 20 40 (by decide) (by simp; omega) (by decide)
  have m4 : ∀ S', opMul (.int 47057) (.int k) S' = some (.int (47057 * k), S') := fun S' => mul_ok 20 40 (by decide) (by simp; omega) (by decide)
  have m5 : ∀ v S', opMul (.int (v % 2147483629)) (.int 30013) S' = some (.int (v % 2147483629 * 30013), S') := fun v S' => mul_ok 40 20 (sm_abs (by omega) (by omega)) (by decide) (by decide)
  have m6 : ∀ v S', opMul (.int (v % 2147483629)) (.int 60017) S' = some (.int (v % 2147483629 * 60017), S') := fun v S' => mul_ok 40 20 (sm_abs (by omega) (by omega)) (by decide) (by decide)
  have abs0 : ∀ v : Int, 0 ≤ (if v < 0 then -v else v) := fun v => by split <;> omega
  have e10 : ∀ S', opPow (.int 10) (.int 60) S' = some (.int 1000000000000000000000000000000000000000000000000000000000000, S') := fun S' => by rw [ev_pow, if_pos (by decide)]; rfl
  generalize hT : (1000000000000000000000000000000000000000000000000000000000000 : Int) = T at *
  obtain ⟨E, hE⟩ : ∃ E : EF, E = eCe (aMax (aCons (eBin opIx (eFz (aMax (aCons (eC (.int 0)) (aCons (eVar 2) aNil)))) (eCall bInt (aCons (eBin opGe (eVar 2) (eBin opPow (eC (.int 10)) (eC (.int 18)))) aNil))) (aCons (eBin opAdd (eBin opMod (eCall bInt (aCons (eBin opAdd (eBin opMul (eBin opMod (eCall bInt (aCons (eVar 2) aNil)) (eC (.int 2147483629))) (eC (.int 30013))) (eBin opMul (eC (.int 47057)) (eVar 1))) aNil)) (eC (.int 2147483629))) (eC (.int 1))) (aCons (eC (.int 0)) aNil)))) := ⟨_, rfl⟩
  have fin : ∀ (cell : Int), 0 ≤ cell → cell < 10 ^ 180 → ∃ c, BoxC 0 c ∧ E [some (.scr ns), some (.int k), some (.int cell)] S = some (.loc S.length, S ++ [c]) := fun cell h0 h1 => by
    subst hE
    have p : (0 : Int) ≤ (cell % 2147483629 * 30013 + 47057 * k) % 2147483629 + 1 ∧ (cell % 2147483629 * 30013 + 47057 * k) % 2147483629 + 1 < 2 ^ 40 := by omega
    by_cases hc : (1000000000000000000 : Int) ≤ cell
    · refine ⟨.lst [.int cell, .int ((cell % 2147483629 * 30013 + 47057 * k) % 2147483629 + 1), .int 0], ⟨_, _, _, rfl, h0, h1, p.1, p.2, by decide, by decide⟩, ?_⟩
      have a1 : atI [D.int 0, D.int cell] 1 = some (.int cell) := rfl
      simp [m4, m5, hc, -ev_mul, a1]
    · refine ⟨.lst [.int 0, .int ((cell % 2147483629 * 30013 + 47057 * k) % 2147483629 + 1), .int 0], ⟨_, _, _, rfl, by decide, by decide, p.1, p.2, by decide, by decide⟩, ?_⟩
      have a1 : atI [D.int 0, D.int cell] 0 = some (.int 0) := rfl
      simp [m4, m5, hc, -ev_mul, a1]
  unfold F__law_box B__law_box
  rw [← hE]
  clear hE
  by_cases h1 : k < ns.length
  · obtain ⟨v, e⟩ := atI_get (ns := ns) (i := k) (by omega) (by omega)
    have h0 := abs0 v
    obtain ⟨c, hc, e2⟩ := fin ((if v < 0 then -v else v) % M) (Int.emod_nonneg _ (by omega)) (by rw [← M180]; exact Int.emod_lt_of_pos _ Mpos)
    refine ⟨c, ?_, hc⟩
    simp [runF, m3, -ev_mul, -ev_pow, h1, e, e10, m1, m2, Mpos, e2]
  · by_cases h2 : 0 < ns.length
    · obtain ⟨v, e⟩ := atI_get (ns := ns) (i := (k : Int) % ns.length) (Int.emod_nonneg _ (by omega)) (Int.emod_lt_of_pos _ (by omega))
      have h0 := abs0 v
      obtain ⟨c, hc, e2⟩ := fin (6007 * k + 2061 + (if v < 0 then -v else v) % 2147483629 * 60017) (by omega) (Int.lt_trans (show _ < (2 : Int) ^ 60 by omega) (by decide +kernel))
      refine ⟨c, ?_, hc⟩
      have h1' : ¬ (k : Int) < ns.length := by omega
      have h2' : (0 : Int) < ns.length := by omega
      simp [runF, m3, -ev_mul, -ev_pow, h1, h2, h1', h2', e, e10, m6, e2]
    · obtain ⟨c, hc, e2⟩ := fin (6007 * k + 2061) (by omega) (Int.lt_trans (show _ < (2 : Int) ^ 60 by omega) (by decide +kernel))
      refine ⟨c, ?_, hc⟩
      have : ns.length = 0 := by omega
      have : ns = [] := List.length_eq_zero_iff.mp this
      subst this
      have h1' : ¬ (k : Int) < 0 := by omega
      simp [runF, m3, -ev_mul, -ev_pow, h1', e2]
end W95

namespace W95
open PySem PySem.Spec PyProof.Rows L2 DZ
variable {S : Store}
theorem all_true {α : Type} (xs : List α) : (xs.map fun _ => true).all id = true := by induction xs <;> simp_all
theorem r_shows {n i j k : Nat} {d : Dk} {p : Int} (h : DkAt S n i j k d) (sm : d.Sm) : F_Disk_shows [.loc n, eR p] S = some (.bl (d.look.any fun here => decide (p ∈ here)), S) := by
  have hl : d.look.length ≤ 1000000 := by have := sm.n; simp [Dk.look]; omega
  simp [F_Disk_shows, B_Disk_shows, runF, ins_loc h.o, r_look h sm, hl]
  rw [comp_mapT eHere (fun here => .bl (decide (p ∈ here))) (by simp) d.look fun x hx => ⟨_, by simp; rfl, by simp [eHere, in_eRT]⟩]
  simp [blsOf_map', List.any_map, Function.comp_def]
def eN (i : Nat) : D := .int (i : Nat)
theorem r_is_ascending {ns : List Nat} (h : ns.Pairwise (· < ·)) (hl : ns.length ≤ 1000) : F_is_ascending [.tup (ns.map eN)] S = some (.bl true, S) := by
  have h1 : (ns.length : Int) ≤ 1000000 := by omega
  have h2 : (-1000000 : Int) ≤ ns.length := by omega
  have h3 : ((ns.length : Int) - 1).toNat = ns.length - 1 := by omega
  have h4 : ns.length - 1 ≤ 1000000 := by omega
  have rk : rngOk (ns.length : Int) := ⟨h2, h1⟩
  simp [F_is_ascending, B_is_ascending, runF, rk, rk_1, rngD_eq, h3]
  have h5 : ns.length ≤ 1000000 + 1 := by omega
  rw [if_pos (by omega)]
  rw [comp_mapT (fun i : Nat => .int (1 + (i : Nat))) (fun i => .bl true) (by simp) (List.range (ns.length - 1)) fun i hi => ⟨_, by simp; rfl, ?_⟩]
  · have := blsOf_map' (fun _ : Nat => true) (List.range (ns.length - 1))
    simp [this]
  · have hi' := List.mem_range.mp hi
    have e0 : atI (ns.map eN) ((1 : Int) + (i : Nat) - 1) = some (eN (ns[i]'(by omega))) := by
      rw [show (1 : Int) + (i : Nat) - 1 = ((i : Nat) : Int) by omega]
      exact DZ.atI_nat (by simp [show i < ns.length by omega])
    have e1 : atI (ns.map eN) ((1 : Int) + (i : Nat)) = some (eN (ns[i + 1]'(by omega))) := by
      rw [show (1 : Int) + (i : Nat) = ((i + 1 : Nat) : Int) by omega]
      exact DZ.atI_nat (by simp [show i + 1 < ns.length by omega])
    have lt : ns[i]'(by omega) < ns[i + 1]'(by omega) := List.pairwise_iff_getElem.mp h i (i + 1) (by omega) (by omega) (by omega)
    simp [e0, e1, lt, eN]
theorem r_lot {n i j k : Nat} {d : Dk} (h : DkAt S n i j k d) {ns : List Nat} (ha : ns.Pairwise (· < ·)) (hl : ns.length ≤ 1000) (hb : ∀ x ∈ ns, x < d.queue.length) :
    F_Disk_is_lot_of_puts [.loc n, .tup (ns.map eN)] S = some (.bl true, S) := by
  have h4 : ns.length ≤ 1000000 := by omega
  simp [F_Disk_is_lot_of_puts, B_Disk_is_lot_of_puts, runF, h4]
  rw [comp_mapT eN (fun i => .bl true) (by simp) ns fun x hx => ⟨_, by simp; rfl, by
    have := hb x hx
    simp [eN, ins_loc h.o, rd_loc h.q, r_is_number]; omega⟩]
  have := blsOf_map' (fun _ : Nat => true) ns
  simp [this, r_is_ascending ha hl]
def Dk.tear (d : Dk) (q : Nat × Int) : Dk := ⟨d.cells.set q.1 (some none), d.traces.set q.1 (d.traces.getD q.1 [] ++ [q.2]), d.queue⟩
def Dk.fstep (kept torn : List Nat) (d : Dk) (x : (Nat × Int) × Nat) : Dk := if x.2 ∈ kept then d.lay x.1 else if x.2 ∈ torn then d.tear x.1 else d
def Dk.fall (d : Dk) (kept torn : List Nat) : Dk := { d.queue.zipIdx.foldl (Dk.fstep kept torn) d with queue := [] }
theorem Dk.fstep_queue {kept torn : List Nat} : ∀ (l : List ((Nat × Int) × Nat)) {d : Dk}, (l.foldl (Dk.fstep kept torn) d).queue = d.queue
  | [], _ => rfl
  | x :: l, d => by
    have := Dk.fstep_queue l (d := Dk.fstep kept torn d x) (kept := kept) (torn := torn)
    simp only [List.foldl_cons]
    rw [this]
    unfold Dk.fstep
    split
    · rfl
    · split <;> rfl
theorem Dk.Wf.fstep {d : Dk} {m : Nat} {kept torn : List Nat} {x : (Nat × Int) × Nat} (h : d.Wf m) : (Dk.fstep kept torn d x).Wf m := by
  unfold Dk.fstep
  split
  · exact h.lay
  · split
    · exact ⟨by simp [Dk.tear, h.c], by simp [Dk.tear, h.t], h.q⟩
    · exact h
theorem Dk.Wf.fsteps {m : Nat} {kept torn : List Nat} : ∀ (l : List ((Nat × Int) × Nat)) {d : Dk}, d.Wf m → (l.foldl (Dk.fstep kept torn) d).Wf m
  | [], _, h => h
  | x :: l, _, h => Dk.Wf.fsteps l h.fstep
/-- no trace is longer than L -/
def Dk.tl (d : Dk) (L : Nat) : Prop := ∀ rows ∈ d.traces, rows.length ≤ L
theorem getD_mem {α : Type} {l : List (List α)} {a : Nat} : l.getD a [] = [] ∨ l.getD a [] ∈ l := by
  by_cases h : a < l.length
  · exact .inr (by simp [List.getD_eq_getElem?_getD, h])
  · exact .inl (by simp [List.getD_eq_getElem?_getD, List.getElem?_eq_none (Nat.le_of_not_lt h)])
theorem Dk.tl.lay {d : Dk} {L : Nat} {x : Nat × Int} (h : d.tl L) : (d.lay x).tl (L + 1) := fun rows hr => by
  rcases List.mem_or_eq_of_mem_set hr with hr | rfl
  · have := h rows hr; omega
  · simp
theorem Dk.tl.tear {d : Dk} {L : Nat} {x : Nat × Int} (h : d.tl L) : (d.tear x).tl (L + 1) := fun rows hr => by
  rcases List.mem_or_eq_of_mem_set hr with hr | rfl
  · have := h rows hr; omega
  · rcases getD_mem (l := d.traces) (a := x.1) with e | e
    · rw [e]; simp
    · have := h _ e; rw [List.length_append]; simp only [List.length_singleton]; omega
theorem Dk.tl.fstep {d : Dk} {L : Nat} {kept torn : List Nat} {x : (Nat × Int) × Nat} (h : d.tl L) : (Dk.fstep kept torn d x).tl (L + 1) := by
  unfold Dk.fstep
  split
  · exact h.lay
  · split
    · exact h.tear
    · exact fun rows hr => Nat.le_succ_of_le (h rows hr)
theorem Dk.tl.fsteps {kept torn : List Nat} : ∀ (l : List ((Nat × Int) × Nat)) {d : Dk} {L : Nat}, d.tl L → (l.foldl (Dk.fstep kept torn) d).tl (L + l.length)
  | [], _, _, h => h
  | x :: l, _, L, h => by
    have := Dk.tl.fsteps (kept := kept) (torn := torn) l (h.fstep (kept := kept) (torn := torn) (x := x))
    rw [List.length_cons, show L + (l.length + 1) = L + 1 + l.length by omega]
    exact this
theorem r_tear {n i j k : Nat} {d : Dk} {a : Nat} {p : Int} (h : DkAt S n i j k d) (ha : a < d.cells.length) (hb : a < d.traces.length) :
    DkAt ((S.set i (.lst ((d.cells.map eCel).set a (.tup [.str "torn"])))).set j (.lst ((d.traces.map eT).set a (.lst (((d.traces.getD a []).map eR) ++ [eR p]))))) n i j k (d.tear (a, p)) := by
  refine ⟨?_, ?_, ?_, ?_, h.ij, h.ik, h.jk⟩
  · rw [List.getElem?_set_ne h.nj.symm, List.getElem?_set_ne h.ni.symm]; exact h.o
  · rw [List.getElem?_set_ne h.ij.symm, List.getElem?_set_self (lt_of_get h.c)]
    simp [Dk.tear, eCel]
  · rw [List.getElem?_set_self (by rw [List.length_set]; exact lt_of_get h.t)]
    simp [Dk.tear, eT]
  · rw [List.getElem?_set_ne h.jk, List.getElem?_set_ne h.ik]; exact h.q
theorem in_eN {l : List Nat} {p : Nat} : inD S (.int (p : Nat)) (.tup (l.map eN)) = some (decide (p ∈ l)) := by
  have := in_plT (S := S) (a := eN p) (xs := l.map eN) rfl (all_pl fun _ _ => rfl)
  rw [in_enc (enc := eN) fun a b e => by simp [eN] at e; exact_mod_cast e] at this
  exact this
theorem r_fall {n i j k m : Nat} {d : Dk} (h : DkAt S n i j k d) (wf : d.Wf m) (sm : d.Sm) {kept torn : List Nat} (k1 : kept.Pairwise (· < ·)) (k2 : kept.length ≤ 1000) (k3 : ∀ x ∈ kept, x < d.queue.length)
    (t1 : torn.Pairwise (· < ·)) (t2 : torn.length ≤ 1000) (t3 : ∀ x ∈ torn, x < d.queue.length) (dj : ∀ x ∈ torn, x ∉ kept) :
    Ok (F_Disk_fall [.loc n, .tup (kept.map eN), .tup (torn.map eN)] S) fun r => r.1 = .non ∧ ∃ k', S.length ≤ k' ∧ DkAt r.2 n i j k' (d.fall kept torn) ∧ Chg [n, i, j] S r.2 := by
  have hn := lt_of_get h.o
  have a1 := r_lot h k1 k2 k3
  have a2 := r_lot h t1 t2 t3
  have hc : compGo (Src.ok ⟨torn.map eN, []⟩) (gVar 6) tTrue (eBin opIn (eVar 6) (eVar 1)) [some (.loc n), some (.tup (kept.map eN)), some (.tup (torn.map eN)), none, none, none, none] (torn.map eN) S = some (torn.map fun _ => .bl false, S) := by
    rw [comp_mapT eN (fun _ => .bl false) (by simp) torn fun x hx => ⟨_, by simp [eN]; rfl, by simp [in_eN, dj x hx]⟩]
  have b1 := blsOf_map' (fun _ : Nat => false) torn
  have l1 : torn.length ≤ 1000000 := by omega
  have an : (torn.map fun _ => false).any id = false := by simp
  simp [F_Disk_fall, B_Disk_fall, runF, ins_loc h.o, src_loc h.q, a1, a2, hc, b1, l1]
  refine for_ex0 (fun t ρ S' => ∃ o3 o4 o5 o6, ρ = [some (.loc n), some (.tup (kept.map eN)), some (.tup (torn.map eN)), o3, o4, o5, o6] ∧ DkAt S' n i j k ((d.queue.zipIdx.take t).foldl (Dk.fstep kept torn) d) ∧ Chg [i, j] S S') _ ⟨_, _, _, _, rfl, h, .refl⟩ ?_ ?_
  · rintro t x ρ S' hx ⟨o3, o4, o5, o6, rfl, h', c⟩
    obtain ⟨y, e1, rfl⟩ := enum_at' hx
    have hz : d.queue.zipIdx[t]? = some (y, t) := by rw [List.getElem?_zipIdx, e1]; simp
    rw [foldl_take hz]
    have wf' := wf.fsteps (kept := kept) (torn := torn) (d.queue.zipIdx.take t)
    have tl' := Dk.tl.fsteps (kept := kept) (torn := torn) (d.queue.zipIdx.take t) (d := d) (L := 1000) fun rows hr => Nat.le_of_lt (sm.t rows hr)
    have hq := h'.q
    rw [Dk.fstep_queue] at hq
    refine ⟨by simpa using hq, ?_⟩
    generalize hd : (d.queue.zipIdx.take t).foldl (Dk.fstep kept torn) d = dt at *
    have hy := wf.q y (List.mem_of_getElem? e1)
    have hc' : y.1 < dt.cells.length := by rw [wf'.c]; exact hy
    have ht' : y.1 < dt.traces.length := by rw [wf'.t]; exact hy
    by_cases hk : t ∈ kept
    · obtain ⟨S2, e2, h2, c2⟩ := r_lay (p := y.2) h' hc' ht'
      simp [eQ, in_eN, hk, ins_loc h'.o, e2]
      exact ⟨by simpa [Dk.fstep, hk] using h2, c.trans c2 fun m _ h => h⟩
    · by_cases ht : t ∈ torn
      · have hS1 : (S'.set i (.lst ((dt.cells.map eCel).set y.1 (.tup [.str "torn"]))))[n]? = some (.ins "Disk" [("cells", .loc i), ("traces", .loc j), ("queue", .loc k)]) := (List.getElem?_set_ne h'.ni.symm).trans h'.o
        have hS2 : (S'.set i (.lst ((dt.cells.map eCel).set y.1 (.tup [.str "torn"]))))[j]? = some (.lst (dt.traces.map eT)) := (List.getElem?_set_ne h'.ij).trans h'.t
        have ix : atI (dt.traces.map eT) (y.1 : Nat) = some (eT (dt.traces.getD y.1 [])) := DZ.atI_nat (by simp [ht', List.getD_eq_getElem?_getD])
        have ln : ((dt.traces.getD y.1 []).length : Nat) + 1 ≤ 1000000 := by
          rcases getD_mem (l := dt.traces) (a := y.1) with e | e
          · rw [e]; simp
          · have h1 := tl' _ e
            have h2 : (d.queue.zipIdx.take t).length ≤ d.queue.length := by rw [List.length_take, List.length_zipIdx]; exact Nat.min_le_right _ _
            have := sm.q
            omega
        simp [eQ, in_eN, hk, ht, ins_loc h'.o, locOf_loc h'.c, ixN_nat hc', ins_loc hS1, rd_loc hS2, ix, eT, ln, locOf_loc hS2, ixN_nat ht', -List.getD_eq_getElem?_getD]
        refine ⟨?_, (c.wr (.inl (by simp))).wr (.inl (by simp))⟩
        have := r_tear (p := y.2) h' hc' ht'
        simpa [Dk.fstep, hk, ht, -List.getD_eq_getElem?_getD] using this
      · simp [eQ, in_eN, hk, ht]
        exact ⟨by simpa [Dk.fstep, hk, ht] using h', c⟩
  · rintro ρ S' ⟨o3, o4, o5, o6, rfl, h', c⟩
    have e : (enumD 0 (d.queue.map eQ)).length = d.queue.zipIdx.length := by simp [enumD_length]
    rw [e, List.take_length] at h'
    have hq := h'.q
    rw [Dk.fstep_queue] at hq
    refine ⟨by simpa using hq, ?_⟩
    have hn' := lt_of_get h'.o
    have hi := lt_of_get h'.c
    have hj := lt_of_get h'.t
    simp [List.getElem?_append_left hn', h'.o]
    refine ⟨S'.length, c.le, ⟨?_, ?_, ?_, ?_, h.ij, by omega, by omega⟩, (c.mono (by simp +contextual)).push.wr (.inl (by simp))⟩
    · rw [List.getElem?_set_self (by simp; omega)]
    · rw [List.getElem?_set_ne h.ni, List.getElem?_append_left hi]; exact h'.c
    · rw [List.getElem?_set_ne h.nj, List.getElem?_append_left hj]; exact h'.t
    · rw [List.getElem?_set_ne (by omega)]; simp [Dk.fall]
end W95

namespace W95
open PySem PySem.Spec PyProof.Rows L2 DZ
variable {S : Store}
def pstep (found rows : List Int) : List Int := found ++ rows.filter (fun p => !decide (p ∈ found))
def Dk.pages (d : Dk) : List Int := isort (d.look.foldl pstep [])
theorem length_pstep : ∀ (ls : List (List Int)) (f : List Int), (∀ l ∈ ls, l.length ≤ 2000) → (ls.foldl pstep f).length ≤ f.length + 2000 * ls.length
  | [], f, _ => by simp
  | l :: ls, f, h => by
    have h1 := length_pstep ls (pstep f l) fun x hx => h x (List.mem_cons_of_mem _ hx)
    have h2 : (pstep f l).length ≤ f.length + 2000 := by
      have := List.length_filter_le (fun p => !decide (p ∈ f)) l
      have := h l List.mem_cons_self
      unfold pstep
      rw [List.length_append]; omega
    simp only [List.foldl_cons, List.length_cons]
    omega
theorem look_len {d : Dk} (sm : d.Sm) : ∀ l ∈ d.look, l.length ≤ 2000 := fun l hl => by
  obtain ⟨x, hx, rfl⟩ := List.mem_map.mp hl
  have h1 := length_dedup (x.1 ++ (d.queue.filter (fun q => decide (q.1 = x.2))).map (·.2)) []
  have h2 := List.length_filter_le (fun q : Nat × Int => decide (q.1 = x.2)) d.queue
  have h3 := sm.q
  have h4 : x.1.length < 1000 := by
    have : x.1 ∈ d.traces := by
      obtain ⟨a, b⟩ := x
      exact (List.mem_zipIdx hx).2.2 ▸ List.getElem_mem _
    exact sm.t _ this
  simp only [List.length_append, List.length_map, List.length_nil] at h1
  show (List.foldl dstep [] _).length ≤ 2000
  omega
theorem atR {p : Int} : atI [D.int p] 0 = some (.int p) := rfl
theorem r_pages {n i j k : Nat} {d : Dk} (h : DkAt S n i j k d) (sm : d.Sm) : F__law_pages [.loc n] S = some (.lst (d.pages.map .int), S) := by
  have key : Ok (F__law_pages [.loc n] S) fun r => r = (.lst (d.pages.map .int), S) := by
    simp [F__law_pages, B__law_pages, runF, ins_loc h.o, r_look h sm]
    refine for_ex0 (fun t ρ S' => ∃ o2 o3, ρ = [some (.loc n), some (.lst (((d.look.take t).foldl pstep []).map .int)), o2, o3] ∧ S' = S) _ ⟨_, _, rfl, rfl⟩ ?_ ?_
    · rintro t x ρ S' hx ⟨o2, o3, rfl, rfl⟩
      obtain ⟨y, e1, rfl⟩ := map_at hx
      refine ⟨by simp, ?_⟩
      have hl := look_len sm
      have l0 : y.length ≤ 1000000 := by have := hl y (List.mem_of_getElem? e1); omega
      have hlen : (List.foldl pstep [] (d.look.take (t + 1))).length ≤ 1000000 := by
        have h1 := length_pstep (d.look.take (t + 1)) [] fun l hl' => hl l (List.mem_of_mem_take hl')
        have h2 : (d.look.take (t + 1)).length ≤ 100 := by
          have := sm.n
          rw [List.length_take]; simp [Dk.look]; omega
        simp only [List.length_nil] at h1
        omega
      rw [foldl_take e1] at hlen ⊢
      generalize hf : (d.look.take t).foldl pstep [] = f at *
      have hc := comp_map (ok := Src.ok ⟨y.map eR, []⟩) (tg := gVar 3) (c := tOf (eBin opNotIn (eBin opIx (eVar 3) (eC (.int 0))) (eVar 1))) (elt := eBin opIx (eVar 3) (eC (.int 0))) (ρ := [some (.loc n), some (.lst (f.map .int)), some (.tup (y.map eR)), none]) (S := S') eR (fun p => !decide (p ∈ f)) (fun p => .int p) (by simp) y fun x hx => ⟨_, by simp; rfl, by simp [eR, atR, in_ints], fun _ => by simp [eR, atR]⟩
      have hlen' : f.length + (y.filter fun p => !decide (p ∈ f)).length ≤ 1000000 := by
        unfold pstep at hlen
        rw [List.length_append] at hlen
        exact hlen
      simp [eHere, l0, hc, hlen', pstep]
    · rintro ρ S' ⟨o2, o3, rfl, rfl⟩
      refine ⟨by simp, ?_⟩
      rw [List.length_map, List.take_length]
      simp [intsOf_map', Dk.pages, isort_eq]
  obtain ⟨r, e, rfl⟩ := key
  exact e
theorem r_newest {ps : List Int} (h : ps.length ≤ 1000000) : F__law_newest [.lst (ps.map .int)] S = (maxL (ps.filter fun p => decide (p < 500))).bind fun m => some (.int m, S) := by
  simp [F__law_newest, B__law_newest, runF, h]
  rw [comp_map D.int (fun p => decide (p < 500)) (fun p => .int p) (by simp) ps fun x hx => ⟨_, by simp; rfl, by simp, fun _ => by simp⟩]
  have := intsOf_map (ps.filter fun p => decide (p < 500))
  simp [this]
  cases maxL (ps.filter fun p => decide (p < 500)) <;> simp
/-! ### plans -/
inductive Stp where
  | put (a : Nat) (p : Int) | flush | need (p : Int) | free (p : Int) | gone (p : Int)
deriving DecidableEq
def eStp : Stp → D
  | .put a p => .tup [.str "put", .int (a : Nat), .int p]
  | .flush => .tup [.str "flush"]
  | .need p => .tup [.str "need", .int p]
  | .free p => .tup [.str "free", .int p]
  | .gone p => .tup [.str "gone", .int p]
structure Sit where
  d : Dk
  needed : List Int
  gone : List Int
/-- a disk that is as it should be -/
def Dk.okB (d : Dk) : Bool := decide (d.cells.length = d.traces.length) && d.queue.all (fun q => decide (q.1 < d.cells.length)) && decide (d.queue.length < 900) && d.traces.all (fun l => decide (l.length < 1000)) && decide (d.traces.length < 100)
theorem Dk.okB.wf {d : Dk} (h : d.okB = true) : d.Wf d.cells.length := by
  simp only [Dk.okB, Bool.and_eq_true, decide_eq_true_eq, List.all_eq_true] at h
  exact ⟨rfl, h.1.1.1.1.symm, h.1.1.1.2⟩
theorem Dk.okB.sm {d : Dk} (h : d.okB = true) : d.Sm := by
  simp only [Dk.okB, Bool.and_eq_true, decide_eq_true_eq, List.all_eq_true] at h
  exact ⟨by omega, h.1.2, h.2⟩
def Dk.put (d : Dk) (q : Nat × Int) : Dk := { d with queue := d.queue ++ [q] }
def Sit.okB (s : Sit) : Bool := s.d.okB && decide (s.needed.length < 1000) && decide (s.gone.length < 1000)
/-- one step, if all is as it should be -/
def Sit.step (s : Sit) (p : Stp) : Option Sit := if s.okB = true then match p with
    | .put a p => if a < s.d.cells.length then some { s with d := s.d.put (a, p) } else none
    | .flush => some { s with d := s.d.flush }
    | .need p => some { s with needed := s.needed ++ [p] }
    | .free p => if p ∈ s.needed then some { s with needed := s.needed.erase p } else none
    | .gone p => some { s with gone := s.gone ++ [p] }
  else none
def Sit.run (s : Sit) : List Stp → Option Sit
  | [] => some s
  | p :: ps => (s.step p).bind fun s' => s'.run ps
theorem cut_take {xs : List D} {m : Nat} : DZ.cutD xs none (some (m : Int)) = xs.take m := by
  unfold DZ.cutD
  rw [HT.sIx_none, HT.sIx_nat]
  simp
theorem run_append {s : Sit} : ∀ (a b : List Stp), s.run (a ++ b) = (s.run a).bind fun t => t.run b := by
  intro a
  induction a generalizing s with
  | nil => intro b; rfl
  | cons p a ih =>
    intro b
    show (s.step p).bind (fun t => t.run (a ++ b)) = ((s.step p).bind fun t => t.run a).bind fun t => t.run b
    cases s.step p with
    | none => rfl
    | some t => exact ih b
theorem run_at {s s' : Sit} {xs : List Stp} (h : s.run xs = some s') {t : Nat} {x : Stp} (hx : xs[t]? = some x) {st : Sit} (ht : s.run (xs.take t) = some st) : ∃ st', st.step x = some st' ∧ s.run (xs.take (t + 1)) = some st' := by
  have e : xs.take (t + 1) ++ xs.drop (t + 1) = xs := List.take_append_drop _ _
  have e2 : xs.take (t + 1) = xs.take t ++ [x] := by rw [List.take_succ, hx]; rfl
  rw [← e, run_append, e2, run_append, ht, Option.bind_some] at h
  rw [e2, run_append, ht, Option.bind_some]
  rw [show st.run [x] = (st.step x).bind (fun t => t.run []) from rfl] at h ⊢
  cases hs : st.step x with
  | none =>
    rw [hs] at h
    cases h
  | some st' => exact ⟨st', rfl, rfl⟩
theorem step_ok {s s' : Sit} {p : Stp} (h : s.step p = some s') : s.okB = true := by
  unfold Sit.step at h
  split at h
  · assumption
  · cases h
theorem okB_d {s : Sit} (h : s.okB = true) : s.d.okB = true := by
  simp only [Sit.okB, Bool.and_eq_true] at h
  exact h.1.1
theorem DkAt.other {n i j k m : Nat} {d : Dk} {c : Cell} (h : DkAt S n i j k d) (h1 : m ≠ n) (h2 : m ≠ i) (h3 : m ≠ j) (h4 : m ≠ k) : DkAt (S.set m c) n i j k d :=
  ⟨(List.getElem?_set_ne h1).trans h.o, (List.getElem?_set_ne h2).trans h.c, (List.getElem?_set_ne h3).trans h.t, (List.getElem?_set_ne h4).trans h.q, h.ij, h.ik, h.jk⟩
theorem DkAt.put {n i j k : Nat} {d : Dk} {q : Nat × Int} (h : DkAt S n i j k d) : DkAt (S.set k (.lst ((d.queue ++ [q]).map eQ))) n i j k (d.put q) :=
  ⟨(List.getElem?_set_ne h.nk.symm).trans h.o, (List.getElem?_set_ne h.ik.symm).trans h.c, (List.getElem?_set_ne h.jk.symm).trans h.t, List.getElem?_set_self (lt_of_get h.q), h.ij, h.ik, h.jk⟩
theorem DkAt.chg {n i j k : Nat} {S' : Store} {d : Dk} (h : DkAt S n i j k d) (c : Chg [] S S') : DkAt S' n i j k d :=
  ⟨c.get h.o (by simp), c.get h.c (by simp), c.get h.t (by simp), c.get h.q (by simp), h.ij, h.ik, h.jk⟩
theorem DkAt.at {n i j k : Nat} {S' : Store} {d : Dk} (h : DkAt S n i j k d) (e1 : S'[n]? = S[n]?) (e2 : S'[i]? = S[i]?) (e3 : S'[j]? = S[j]?) (e4 : S'[k]? = S[k]?) : DkAt S' n i j k d :=
  ⟨e1.trans h.o, e2.trans h.c, e3.trans h.t, e4.trans h.q, h.ij, h.ik, h.jk⟩
theorem atS1 {a : D} : atI [a] 0 = some a := rfl
theorem atS2_0 {a b : D} : atI [a, b] 0 = some a := rfl
theorem atS2_1 {a b : D} : atI [a, b] 1 = some b := rfl
theorem atS2_m {a b : D} : atI [a, b] (-1) = some b := rfl
theorem atS1_m {a : D} : atI [a] (-1) = some a := rfl
theorem atS3_m {a b c : D} : atI [a, b, c] (-1) = some c := rfl
theorem set_self' {S : Store} {n : Nat} {c e : Cell} (h : S[n]? = some c) : (S.set n e)[n]? = some e := List.getElem?_set_self (lt_of_get h)
/-- the state of a run -/
structure RunAt (S : Store) (n i j k a b : Nat) (st : Sit) : Prop where
  xd : DkAt S n i j k st.d
  xa : S[a]? = some (.lst (st.needed.map .int))
  xb : S[b]? = some (.lst (st.gone.map .int))
  ne : a ≠ b
  an : a ≠ n
  ai : a ≠ i
  aj : a ≠ j
  ak : a ≠ k
  bn : b ≠ n
  bi : b ≠ i
  bj : b ≠ j
  bk : b ≠ k
def RunPost (S : Store) (n i j k : Nat) (s' : Sit) (S' : Store) : Prop := ∃ k', (k' = k ∨ S.length ≤ k') ∧ RunAt S' n i j k' S.length (S.length + 1) s' ∧ Chg [n, i, j, k] S S'
theorem r_run {n i j k : Nat} {d : Dk} {s' : Sit} (h : DkAt S n i j k d) (steps : List Stp) (many : Nat) {P : D} (hP : P = .tup (steps.map eStp) ∨ P = .lst (steps.map eStp)) (hr : (Sit.mk d [] []).run (steps.take many) = some s') :
    Ok (F__law_run [.loc n, P, .int (many : Nat)] S) fun r => r.1 = .tup [.loc S.length, .loc (S.length + 1)] ∧ RunPost S n i j k s' r.2 := by
  have hn := lt_of_get h.o
  have hi := lt_of_get h.c
  have hj := lt_of_get h.t
  have hk := lt_of_get h.q
  have hcut : ∃ P' : D, opSl P none (some (many : Int)) (S ++ [.lst [], .lst []]) = some (P', S ++ [.lst [], .lst []]) ∧ srcOf (S ++ [.lst [], .lst []]) P' = some ⟨(steps.take many).map eStp, []⟩ := by
    rcases hP with rfl | rfl
    · exact ⟨.tup ((steps.take many).map eStp), by show some (D.tup (DZ.cutD _ _ _), _) = _; rw [cut_take, List.map_take], rfl⟩
    · exact ⟨.lst ((steps.take many).map eStp), by show some (D.lst (DZ.cutD _ _ _), _) = _; rw [cut_take, List.map_take], rfl⟩
  obtain ⟨P', c1, c2⟩ := hcut
  have h0 : RunAt (S ++ [.lst [], .lst []]) n i j k S.length (S.length + 1) ⟨d, [], []⟩ :=
    ⟨h.chg Chg.refl.push, by simp, by simp, by omega, by omega, by omega, by omega, by omega, by omega, by omega, by omega, by omega⟩
  simp [F__law_run, B__law_run, runF, c1, c2]
  rw [← List.map_take]
  refine for_ex0 (fun t ρ S' => ∃ o5 st k', ρ = [some (.loc n), some P, some (.int (many : Nat)), some (.loc S.length), some (.loc (S.length + 1)), o5] ∧ (Sit.mk d [] []).run ((steps.take many).take t) = some st ∧ (k' = k ∨ S.length ≤ k') ∧ RunAt S' n i j k' S.length (S.length + 1) st ∧ Chg [n, i, j, k] S S') _ ⟨_, _, k, rfl, rfl, .inl rfl, h0, Chg.refl.push⟩ ?_ ?_
  · rintro t x ρ S' hx ⟨o5, st, k', rfl, e1, hk', R, c⟩
    obtain ⟨y, e2, rfl⟩ := map_at hx
    obtain ⟨st', e3, e4⟩ := run_at hr e2 e1
    refine ⟨by simp, ?_⟩
    have ok := step_ok e3
    have okd := okB_d ok
    have ha := lt_of_get R.xa
    have hb := lt_of_get R.xb
    have ok0 := ok
    simp only [Sit.okB, Bool.and_eq_true, decide_eq_true_eq] at ok
    unfold Sit.step at e3
    rw [if_pos ok0] at e3
    have hko : k' ∈ [n, i, j, k] ∨ S.length ≤ k' := by
      rcases hk' with e | e
      · subst e; exact .inl (by simp)
      · exact .inr e
    have fin : ∀ (S2 : Store) (k2 : Nat) (o : Option D), (k2 = k ∨ S.length ≤ k2) → RunAt S2 n i j k2 S.length (S.length + 1) st' → Chg [n, i, j, k] S S2 → ∃ o5 st k', [some (.loc n), some P, some (.int (many : Nat)), some (.loc S.length), some (.loc (S.length + 1)), o] = [some (.loc n), some P, some (.int (many : Nat)), some (.loc S.length), some (.loc (S.length + 1)), o5] ∧ (Sit.mk d [] []).run ((steps.take many).take (t + 1)) = some st ∧ (k' = k ∨ S.length ≤ k') ∧ RunAt S2 n i j k' S.length (S.length + 1) st ∧ Chg [n, i, j, k] S S2 :=
      fun S2 k2 o h1 h2 h3 => ⟨o, st', k2, rfl, e4, h1, h2, h3⟩
    refine ⟨_, rfl, ?_⟩
    cases y with
    | put a p =>
      simp only at e3
      split at e3
      · rename_i hac
        cases e3
        have e5 := r_put (p := p) R.xd hac (by have := (Dk.okB.sm okd).q; omega)
        rw [Ok.iff (a := (.nx, [some (.loc n), some P, some (.int (many : Nat)), some (.loc S.length), some (.loc (S.length + 1)), some (eStp (.put a p))], S'.set k' (.lst ((st.d.queue ++ [(a, p)]).map eQ)))) (by
          have a0 : atI [D.str "put", D.int (a : Nat), D.int p] 0 = some (.str "put") := rfl
          have a1 : atI [D.str "put", D.int (a : Nat), D.int p] 1 = some (.int (a : Nat)) := rfl
          have a2 : atI [D.str "put", D.int (a : Nat), D.int p] 2 = some (.int p) := rfl
          simp only [eR] at e5
          simp [eStp, a0, a1, a2, ins_loc R.xd.o, e5, -List.map_append])]
        exact fin _ k' _ hk' ⟨R.xd.put, (List.getElem?_set_ne R.ak.symm).trans R.xa, (List.getElem?_set_ne R.bk.symm).trans R.xb, R.ne, R.an, R.ai, R.aj, R.ak, R.bn, R.bi, R.bj, R.bk⟩ (c.wr hko)
      · cases e3
    | flush =>
      cases e3
      obtain ⟨⟨v, S2⟩, e5, rfl, k2, hk2, d2, c2⟩ := r_flush R.xd (Dk.okB.wf okd)
      rw [Ok.iff (a := (.nx, [some (.loc n), some P, some (.int (many : Nat)), some (.loc S.length), some (.loc (S.length + 1)), some (eStp .flush)], S2)) (by
          simp [eStp, atS1, ins_loc R.xd.o, e5])]
      refine fin _ k2 _ (.inr (by omega)) ⟨d2, c2.get R.xa ?_, c2.get R.xb ?_, R.ne, R.an, R.ai, R.aj, by omega, R.bn, R.bi, R.bj, by omega⟩ (c.trans c2 fun m _ h => by simp at h ⊢; omega)
      · simp [R.an, R.ai, R.aj]
      · simp [R.bn, R.bi, R.bj]
    | need p =>
      cases e3
      have hl : st.needed.length < 1000000 := by omega
      rw [Ok.iff (a := (.nx, [some (.loc n), some P, some (.int (many : Nat)), some (.loc S.length), some (.loc (S.length + 1)), some (eStp (.need p))], S'.set S.length (.lst ((st.needed ++ [p]).map .int)))) (by
          simp [eStp, atS2_0, atS2_1, lst_loc R.xa, mAppend, locOf_loc R.xa, hl])]
      exact fin _ k' _ hk' ⟨R.xd.other R.an R.ai R.aj R.ak, set_self' R.xa, (List.getElem?_set_ne R.ne).trans R.xb, R.ne, R.an, R.ai, R.aj, R.ak, R.bn, R.bi, R.bj, R.bk⟩ (c.wr (.inr (Nat.le_refl _)))
    | free p =>
      simp only at e3
      split at e3
      · rename_i hp
        cases e3
        rw [Ok.iff (a := (.nx, [some (.loc n), some P, some (.int (many : Nat)), some (.loc S.length), some (.loc (S.length + 1)), some (eStp (.free p))], S'.set S.length (.lst ((st.needed.erase p).map .int)))) (by
          simp [eStp, atS2_0, atS2_1, lst_loc R.xa, mRemove, locOf_loc R.xa, intsOf_map', hp])]
        exact fin _ k' _ hk' ⟨R.xd.other R.an R.ai R.aj R.ak, set_self' R.xa, (List.getElem?_set_ne R.ne).trans R.xb, R.ne, R.an, R.ai, R.aj, R.ak, R.bn, R.bi, R.bj, R.bk⟩ (c.wr (.inr (Nat.le_refl _)))
      · cases e3
    | gone p =>
      cases e3
      have hl : st.gone.length < 1000000 := by omega
      rw [Ok.iff (a := (.nx, [some (.loc n), some P, some (.int (many : Nat)), some (.loc S.length), some (.loc (S.length + 1)), some (eStp (.gone p))], S'.set (S.length + 1) (.lst ((st.gone ++ [p]).map .int)))) (by
          simp [eStp, atS2_0, atS2_1, lst_loc R.xb, mAppend, locOf_loc R.xb, hl])]
      exact fin _ k' _ hk' ⟨R.xd.other R.bn R.bi R.bj R.bk, (List.getElem?_set_ne R.ne.symm).trans R.xa, set_self' R.xb, R.ne, R.an, R.ai, R.aj, R.ak, R.bn, R.bi, R.bj, R.bk⟩ (c.wr (.inr (by omega)))
  · rintro ρ S' ⟨o5, st, k', rfl, e1, hk', R, c⟩
    refine ⟨by simp, ?_⟩
    rw [List.length_map, List.take_length, hr] at e1
    cases e1
    rw [Ok.iff (a := (.rt (.tup [.loc S.length, .loc (S.length + 1)]), [some (.loc n), some P, some (.int (many : Nat)), some (.loc S.length), some (.loc (S.length + 1)), o5], S')) (by simp)]
    exact Ok_some.mpr ⟨rfl, k', hk', R, c⟩
end W95

namespace W95
open PySem PySem.Spec PyProof.Rows L2 DZ
variable {S : Store}
theorem drop_box {F : FF} {ds : List D} {S : Store} {b : Nat} {T : D × Store → Prop} (hb : b < S.length) (h : Ok (F ds S) fun r => Chg [b] S r.2 ∧ ∃ c', r.2[b]? = some c' ∧ c'.bel S.length ∧ ∃ d, frz r.2 S.length frzDeep r.1 = some d ∧ T (d, S.set b c')) : Ok (dropF F ds S) T := by
  refine drop_ok (h.mono ?_)
  rintro ⟨x, S'⟩ ⟨c, c', e, bl, d, f, t⟩
  refine ⟨⟨c.le, fun i hi => ?_⟩, d, f, ?_⟩
  · by_cases hib : i = b
    · subst hib; exact .inr ⟨c', e, bl⟩
    · exact .inl (c.at_ i hi (by simpa using hib))
  · have : S'.take S.length = S.set b c' := by
      apply List.ext_getElem?
      intro i
      by_cases hi : i < S.length
      · rw [List.getElem?_take_of_lt hi]
        by_cases hib : i = b
        · subst hib; rw [List.getElem?_set_self hi]; exact e
        · rw [List.getElem?_set_ne (Ne.symm hib)]; exact c.at_ i hi (by simpa using hib)
      · rw [List.getElem?_eq_none (by simp; omega), List.getElem?_eq_none (by simp; omega)]
    show T (d, S'.take S.length)
    rw [this]; exact t
def idxOf (p : Int) : Int := if 500 ≤ p ∧ p < 1000 then p - 500 else p
def pageBad (pat own p : Int) : Bool := decide (p < 1000) && (decide (own < idxOf p) || !countsAt pat own (idxOf p))
def kindsAll : Nat → List (List Nat)
  | 0 => [[]]
  | n + 1 => (kindsAll n).flatMap fun ks => [ks ++ [0], ks ++ [1], ks ++ [2]]
def ixs (v : Nat) (ks : List Nat) : List Nat := (ks.zipIdx.filter fun x => decide (x.1 = v)).map (·.2)
def fallOk (st : Sit) (pages : List Int) (ks : List Nat) : Bool :=
  let d' := st.d.fall (ixs 0 ks) (ixs 1 ks)
  d'.okB && (d'.pages.all (fun p => decide (p ∈ pages)) && (d'.pages.length ≤ 1000 && st.needed.all (fun p => decide (some (some p) ∈ d'.cells))))
def cutOk (slots : Nat) (plan : List Stp) (pat : Int) (many : Nat) : Option (List Int) := ((Sit.mk (Dk.new slots) [] []).run (plan.take many)).bind fun st =>
  if st.okB = true then (maxL ((st.d.pages ++ [0]).filter fun p => decide (p < 500))).bind fun own =>
    if (decide (own.natAbs < 1000) && (decide (pat.natAbs < 1000) && (decide (st.d.pages.length ≤ 1000) && (st.d.pages.all (fun p => !pageBad pat own p) && (st.gone.all (fun p => !decide (p ∈ st.d.pages)) && (kindsAll st.d.queue.length).all (fallOk st st.d.pages)))))) = true then
      some ((st.d.pages.filter fun p => decide (p < 1000)).map fun p => own - idxOf p) else none
  else none
theorem mem_kinds : ∀ {n : Nat} {ks : List Nat}, ks.length = n → (∀ x ∈ ks, x < 3) → ks ∈ kindsAll n
  | 0, ks, h, _ => by
    have : ks = [] := List.length_eq_zero_iff.mp h
    subst this; simp [kindsAll]
  | n + 1, ks, h, hx => by
    have hne : ks ≠ [] := by rintro rfl; simp at h
    have e : ks = ks.dropLast ++ [ks.getLast hne] := (List.dropLast_concat_getLast hne).symm
    have h1 : ks.dropLast ∈ kindsAll n := mem_kinds (by simp [h]) fun x hx' => hx x ((List.dropLast_sublist ks).subset hx')
    have h2 := hx _ (List.getLast_mem hne)
    rw [e]
    refine List.mem_flatMap.mpr ⟨_, h1, ?_⟩
    have : ks.getLast hne = 0 ∨ ks.getLast hne = 1 ∨ ks.getLast hne = 2 := by omega
    rcases this with h | h | h <;> rw [h] <;> simp
theorem ixs_append {v x : Nat} {ks : List Nat} : ixs v (ks ++ [x]) = ixs v ks ++ (if x = v then [ks.length] else []) := by
  unfold ixs
  rw [List.zipIdx_append]
  by_cases h : x = v <;> simp [h]
theorem ixs_lt {v : Nat} {ks : List Nat} : ∀ i ∈ ixs v ks, i < ks.length := fun i hi => by
  simp only [ixs, List.mem_map, List.mem_filter] at hi
  obtain ⟨⟨a, j⟩, ⟨h1, _⟩, rfl⟩ := hi
  exact (by simpa using (List.mem_zipIdx h1).2.1)
theorem ixs_sorted {v : Nat} {ks : List Nat} : (ixs v ks).Pairwise (· < ·) := by
  unfold ixs
  have h1 : (ks.zipIdx.map (·.2)).Pairwise (· < ·) := by
    rw [List.zipIdx_map_snd]
    exact List.pairwise_lt_range'
  have h2 : ((ks.zipIdx.filter fun x => decide (x.1 = v)).map (·.2)).Sublist (ks.zipIdx.map (·.2)) := List.Sublist.map _ List.filter_sublist
  exact h1.sublist h2
theorem ixs_len {v : Nat} {ks : List Nat} : (ixs v ks).length ≤ ks.length := by
  unfold ixs
  rw [List.length_map]
  exact Nat.le_trans (List.length_filter_le _ _) (by simp)
theorem ixs_dj {ks : List Nat} : ∀ x ∈ ixs 1 ks, x ∉ ixs 0 ks := fun x h h' => by
  simp only [ixs, List.mem_map, List.mem_filter, decide_eq_true_eq] at h h'
  obtain ⟨⟨a, i⟩, ⟨h1, e1⟩, rfl⟩ := h
  obtain ⟨⟨b, j⟩, ⟨h2, e2⟩, e⟩ := h'
  simp only at e e1 e2
  subst e
  have := (List.mem_zipIdx h1).2.2
  have := (List.mem_zipIdx h2).2.2
  simp_all
theorem Ok_ex {α : Type} {r : Option α} {P : α → Prop} (h : Ok r P) : ∃ a, r = some a ∧ P a := h
theorem dk_at {m : Nat} : DkAt (S ++ dkNew S.length m) S.length (S.length + 1) (S.length + 2) (S.length + 3) (Dk.new m) :=
  ⟨by simp [dkNew, dkFs], by simp [dkNew], by simp [dkNew], by simp [dkNew], by omega, by omega, by omega⟩
theorem r_cut {b N slots many : Nat} {c : Cell} {plan : List Stp} {pat : Int} {l : List Int} (hb : S[b]? = some c) (hc : BoxC N c) (hN : N < 2 ^ 50) (hs : 0 < slots) (hs2 : slots ≤ 400) (h : cutOk slots plan pat many = some l) :
    Ok (F__law_cut [.loc b, .int (slots : Nat), .tup (plan.map eStp), .int pat, .int (many : Nat)] S) fun r => r.1 = .lst (l.map .int) ∧ ∃ c', BoxC (N + 1000) c' ∧ r.2 = S.set b c' := by
  have hbl := lt_of_get hb
  obtain ⟨st, hrun, h⟩ := obind h
  split at h
  rotate_left
  · cases h
  rename_i hok
  obtain ⟨own, hown, h⟩ := obind h
  split at h
  rotate_left
  · cases h
  rename_i hchk
  cases h
  simp only [Bool.and_eq_true, decide_eq_true_eq] at hchk
  obtain ⟨k1, k2, k3, k4, k5, k6⟩ := hchk
  refine drop_box hbl ?_
  have e1 := r_disk (S := S) hs hs2
  obtain ⟨⟨v, S2⟩, e2, rfl, k', hk', R, c2⟩ := r_run (dk_at (S := S) (m := slots)) plan many (.inl rfl) hrun
  have hL : (S ++ dkNew S.length slots).length = S.length + 4 := by simp [dkNew]
  rw [hL] at hk' R e2
  have okd := okB_d hok
  have sm := Dk.okB.sm okd
  have wf := Dk.okB.wf okd
  have e3 := r_pages R.xd sm
  generalize hpg : st.d.pages = pages at *
  have e4 : F__law_newest [.lst (pages.map .int ++ [.int 0])] S2 = some (.int own, S2) := by
    have := r_newest (S := S2) (ps := pages ++ [0]) (by simp; omega)
    rw [hown] at this
    simpa using this
  have box2 : S2[b]? = some c := c2.get (List.getElem?_append_left hbl ▸ hb) (by simp; omega)
  have hp6 : pages.length + 1 ≤ 1000000 := by omega
  simp [B__law_cut, runF, e1, e2, e3, e4, hp6]
  have hown40 : own.natAbs < 2 ^ 40 := by omega
  have hmx : (max 0 (own - pat)).natAbs < 2 ^ 40 := by omega
  refine for_ex0 (fun t ρ S' => S' = S2 ∧ ∃ o10 o11, ρ = [some (.loc b), some (.int (slots : Nat)), some (.tup (plan.map eStp)), some (.int pat), some (.int (many : Nat)), some (.loc S.length), some (.loc (S.length + 4)), some (.loc (S.length + 4 + 1)), some (.lst (pages.map .int)), some (.int own), o10, o11, none, none, none, none, none, none]) _ ⟨rfl, _, _, rfl⟩ ?_ ?_
  · rintro t x ρ S' hx ⟨rfl, o10, o11, rfl⟩
    obtain ⟨p, e5, rfl⟩ := map_at hx
    refine ⟨by simp, ?_⟩
    have hp := List.all_eq_true.mp k4 p (List.mem_of_getElem? e5)
    simp only [pageBad, Bool.not_eq_eq_eq_not, Bool.not_true] at hp
    have key : ∀ i : Int, idxOf p = i → (decide (p < 1000) && (decide (own < i) || !countsAt pat own i)) = false := fun i e => by rw [← e]; exact hp
    by_cases h1 : (500 : Int) ≤ p
    · by_cases h2 : p < 1000
      · have kk := key (p - 500) (by simp [idxOf, h1, h2])
        simp [h2] at kk
        have kk1 : ¬ own < p - 500 := by omega
        simp [h1, h2, kk1, r_counts_at hmx hown40, r_same_true, kk.2]
      · simp [h1, h2]
    · by_cases h2 : p < 1000
      · have kk := key p (by simp [idxOf, h1])
        simp [h2] at kk
        have kk1 : ¬ own < p := by omega
        simp [h1, h2, kk1, r_counts_at hmx hown40, r_same_true, kk.2]
      · simp [h1, h2]
  · rintro ρ S' ⟨rfl, o10, o11, rfl⟩
    refine ⟨by simp, ?_⟩
    replace R : RunAt S' S.length (S.length + 1) (S.length + 2) k' (S.length + 4) (S.length + 4 + 1) st := R
    replace e3 : F__law_pages [.loc S.length] S' = some (.lst (pages.map .int), S') := e3
    have g5 : ∀ p ∈ st.gone, ¬ p ∈ pages := fun p hp => by
      have := List.all_eq_true.mp k5 p hp
      simpa using this
    have ok1 := hok
    simp only [Sit.okB, Bool.and_eq_true, decide_eq_true_eq] at ok1
    have lg : st.gone.length ≤ 1000000 := by omega
    have ln : st.needed.length ≤ 1000000 := by omega
    have c5 : compGo (Src.ok ⟨st.gone.map .int, [(S.length + 4 + 1, .lst (st.gone.map .int))]⟩) (gVar 10) tTrue (eBin opIn (eVar 10) (eVar 8)) [some (.loc b), some (.int (slots : Nat)), some (.tup (plan.map eStp)), some (.int pat), some (.int (many : Nat)), some (.loc S.length), some (.loc (S.length + 4)), some (.loc (S.length + 4 + 1)), some (.lst (pages.map .int)), some (.int own), none, o11, none, none, none, none, none, none] (st.gone.map .int) S' = some (st.gone.map fun _ => .bl false, S') := by
      rw [comp_mapT D.int (fun _ => .bl false) (by simpa using R.xb) st.gone fun p hp => ⟨_, by simp; rfl, by simp [in_ints, g5 p hp]⟩]
    have b5 := blsOf_map' (fun _ : Int => false) st.gone
    have q6 : st.d.queue.length ≤ 1000000 := by have := sm.q; omega
    have q7 : (-1000000 : Int) ≤ st.d.queue.length := by omega
    have q8 : (st.d.queue.length : Int) ≤ 1000000 := by omega
    have rk : rngOk (st.d.queue.length : Int) := ⟨q7, q8⟩
    simp [src_loc R.xb, lg, c5, b5, ins_loc R.xd.o, r_waits R.xd, rk, rngD_eq]
    refine for_ex0 (fun t ρ S3 => ∃ ks c' o14 o15, ks.length = t ∧ (∀ x ∈ ks, x < 3) ∧ BoxC (N + t) c' ∧ S3 = S'.set b c' ∧ ρ = [some (.loc b), some (.int (slots : Nat)), some (.tup (plan.map eStp)), some (.int pat), some (.int (many : Nat)), some (.loc S.length), some (.loc (S.length + 4)), some (.loc (S.length + 4 + 1)), some (.lst (pages.map .int)), some (.int own), o10, o11, some (.lst ((ixs 0 ks).map eN)), some (.lst ((ixs 1 ks).map eN)), o14, o15, none, none]) _ ⟨[], c, _, _, rfl, by simp, hc, ?_, rfl⟩ ?_ ?_
    · apply List.ext_getElem?
      intro i
      by_cases hib : i = b
      · subst hib; rw [List.getElem?_set_self (lt_of_get box2)]; exact box2
      · rw [List.getElem?_set_ne (Ne.symm hib)]
    · rintro t x ρ S3 hx ⟨ks, c', o14, o15, hk1, hk2, hbx, rfl, rfl⟩
      obtain ⟨y, e5, rfl⟩ := map_at hx
      have hy : y = t ∧ t < st.d.queue.length := by
        obtain ⟨h1, h2⟩ := List.getElem?_eq_some_iff.mp e5
        rw [List.getElem_range] at h2
        exact ⟨h2.symm, by simpa using h1⟩
      obtain ⟨rfl, hy⟩ := hy
      refine ⟨by simp, ?_⟩
      have := sm.q
      obtain ⟨dg, c2', e6, hb2, hdg⟩ := r_take (m := 3) (set_self' (e := c') box2) hbx (by omega) (by decide) (by decide)
      have l0 := ixs_len (v := 0) (ks := ks)
      have l1 := ixs_len (v := 1) (ks := ks)
      have l2 : (ixs 0 ks).length + 1 ≤ 1000000 := by omega
      have l3 : (ixs 1 ks).length + 1 ≤ 1000000 := by omega
      have l4 : (ixs 0 ks).length ≤ 1000000 := by omega
      have l5 : (ixs 1 ks).length ≤ 1000000 := by omega
      have e6' : F__law_take [.loc b, .int 3] (S'.set b c') = some (.int (dg : Nat), S'.set b c2') := by
        rw [List.set_set] at e6; exact e6
      refine ⟨_, rfl, ?_⟩
      refine Ok.eq (a := (.nx, [some (.loc b), some (.int (slots : Nat)), some (.tup (plan.map eStp)), some (.int pat), some (.int (many : Nat)), some (.loc S.length), some (.loc (S.length + 4)), some (.loc (S.length + 4 + 1)), some (.lst (pages.map .int)), some (.int own), o10, o11, some (.lst ((ixs 0 (ks ++ [dg])).map eN)), some (.lst ((ixs 1 (ks ++ [dg])).map eN)), some (.int (y : Nat)), some (.int (dg : Nat)), none, none], S'.set b c2')) (by
        have hd : dg = 0 ∨ dg = 1 ∨ dg = 2 := by omega
        rcases hd with rfl | rfl | rfl <;> simp [e6', ixs_append, l2, l3, l4, l5, hk1, eN] <;> (try simp at e6'; simp [e6', l2, l3, l4, l5])) ?_
      exact ⟨ks ++ [dg], c2', _, _, by simp [hk1], by simp; rintro x (h | rfl); exact hk2 x h; exact hdg, hb2, rfl, rfl⟩
    · rintro ρ S3 ⟨ks, c', o14, o15, hk1, hk2, hbx, rfl, rfl⟩
      rw [List.length_map, List.length_range] at hk1 hbx
      refine ⟨by simp, ?_⟩
      have hmem := List.all_eq_true.mp k6 ks (mem_kinds hk1 hk2)
      simp only [fallOk, Bool.and_eq_true, decide_eq_true_eq] at hmem
      obtain ⟨f1, f2, f3, f4⟩ := hmem
      have hq9 := sm.q
      have R3 : DkAt (S'.set b c') S.length (S.length + 1) (S.length + 2) k' st.d := R.xd.other (by omega) (by omega) (by omega) (by omega)
      have bl := ixs_len (v := 0) (ks := ks)
      have bl1 := ixs_len (v := 1) (ks := ks)
      obtain ⟨⟨v, S4⟩, e7, rfl, k4', hk4, D4, c4⟩ := r_fall R3 wf sm (kept := ixs 0 ks) (torn := ixs 1 ks) ixs_sorted (by omega) (fun x hx => hk1 ▸ ixs_lt x hx) ixs_sorted (by omega) (fun x hx => hk1 ▸ ixs_lt x hx) ixs_dj
      replace D4 : DkAt S4 S.length (S.length + 1) (S.length + 2) k4' (st.d.fall (ixs 0 ks) (ixs 1 ks)) := D4
      replace c4 : Chg [S.length, S.length + 1, S.length + 2] (S'.set b c') S4 := c4
      have sm4 := Dk.okB.sm f1
      have e8 := r_pages D4 sm4
      have e9 := r_safe D4
      generalize hd4 : st.d.fall (ixs 0 ks) (ixs 1 ks) = d4 at *
      have ne4 : S4[S.length + 4]? = some (.lst (st.needed.map .int)) := c4.get ((List.getElem?_set_ne (by omega)).trans R.xa) (by simp)
      have bx4 : S4[b]? = some c' := c4.get (set_self' box2) (by simp; omega)
      have f2' : ∀ p ∈ d4.pages, p ∈ pages := fun p hp => by simpa using List.all_eq_true.mp f2 p hp
      have f4' : ∀ p ∈ st.needed, some (some p) ∈ d4.cells := fun p hp => by simpa using List.all_eq_true.mp f4 p hp
      have l3 : d4.pages.length ≤ 1000000 := by omega
      have cc1 : ∀ o, compGo (Src.ok ⟨d4.pages.map .int, []⟩) (gVar 10) tTrue (eBin opIn (eVar 10) (eVar 8)) [some (.loc b), some (.int (slots : Nat)), some (.tup (plan.map eStp)), some (.int pat), some (.int (many : Nat)), some (.loc S.length), some (.loc (S.length + 4)), some (.loc (S.length + 4 + 1)), some (.lst (pages.map .int)), some (.int own), none, o11, some (.lst ((ixs 0 ks).map eN)), some (.lst ((ixs 1 ks).map eN)), o14, o15, some (.lst (d4.pages.map .int)), o] (d4.pages.map .int) S4 = some (d4.pages.map fun _ => .bl true, S4) := fun o => by
        rw [comp_mapT D.int (fun _ => .bl true) (by simp) d4.pages fun p hp => ⟨_, by simp; rfl, by simp [in_ints, f2' p hp]⟩]
      have bb1 := blsOf_map' (fun _ : Int => true) d4.pages
      have pc : (d4.cells.map eCel).all (pl 60) = true := all_pl fun a _ => by rcases a with _ | _ | a <;> first | rfl | simp [eCel, pl, strOk_of]
      have cc2 : compGo (Src.ok ⟨st.needed.map .int, [(S.length + 4, .lst (st.needed.map .int))]⟩) (gVar 10) tTrue (eBin opIn (eTup (aCons (eVar 10) aNil)) (eVar 17)) [some (.loc b), some (.int (slots : Nat)), some (.tup (plan.map eStp)), some (.int pat), some (.int (many : Nat)), some (.loc S.length), some (.loc (S.length + 4)), some (.loc (S.length + 4 + 1)), some (.lst (pages.map .int)), some (.int own), none, o11, some (.lst ((ixs 0 ks).map eN)), some (.lst ((ixs 1 ks).map eN)), o14, o15, some (.lst (d4.pages.map .int)), some (.tup (d4.cells.map eCel))] (st.needed.map .int) S4 = some (st.needed.map fun _ => .bl true, S4) := by
        rw [comp_mapT D.int (fun _ => .bl true) (by simpa using ne4) st.needed fun p hp => ⟨_, by simp; rfl, by
          have hm : D.tup [.int p] ∈ d4.cells.map eCel := List.mem_map.mpr ⟨some (some p), f4' p hp, rfl⟩
          simp [in_plT (S := S4) (a := .tup [.int p]) rfl pc]
          exact List.mem_map.mp hm⟩]
      have bb2 := blsOf_map' (fun _ : Int => true) st.needed
      have cc3 : compGo (Src.ok ⟨pages.map .int, []⟩) (gVar 10) (tOf (eBin opLt (eVar 10) (eC (.int 1000)))) (eBin opSub (eVar 9) (eIf (tOf (eChain opLe opLt (eC (.int 500)) (eVar 10) (eC (.int 1000)))) (eBin opSub (eVar 10) (eC (.int 500))) (eVar 10))) [some (.loc b), some (.int (slots : Nat)), some (.tup (plan.map eStp)), some (.int pat), some (.int (many : Nat)), some (.loc S.length), some (.loc (S.length + 4)), some (.loc (S.length + 4 + 1)), some (.lst (pages.map .int)), some (.int own), none, o11, some (.lst ((ixs 0 ks).map eN)), some (.lst ((ixs 1 ks).map eN)), o14, o15, some (.lst (d4.pages.map .int)), some (.tup (d4.cells.map eCel))] (pages.map .int) S4 = some ((pages.filter fun p => decide (p < 1000)).map fun p => .int (own - idxOf p), S4) := by
        rw [comp_map D.int (fun p => decide (p < 1000)) (fun p => .int (own - idxOf p)) (by simp) pages fun p hp => ⟨_, by simp; rfl, by simp, fun h => by
          by_cases h1 : (500 : Int) ≤ p
          · by_cases h2 : p < 1000 <;> simp [idxOf, h1, h2]
          · simp [idxOf, h1]⟩]
      have hpl : pages.length ≤ 1000000 := by omega
      simp [ins_loc R3.o, ins_loc D4.o, e7, e8, e9, l3, cc1, bb1, src_loc ne4, ln, cc2, bb2, hpl, cc3]
      refine ⟨?_, c', bx4, hbx.bel, _, frz_pl 5 _ ?_, rfl, c', hbx.mono (by omega), rfl⟩
      · refine ⟨?_, fun m hm hx => ?_⟩
        · have h1 := c2.le
          have h2 := c4.le
          simp at h1 h2
          simp [dkNew] at h1
          omega
        · have hmb : m ≠ b := by simpa using hx
          have h1 := c2.at_ m (by simp; omega) (by simp; omega)
          have h2 := c4.at_ m (by simp; have := c2.le; simp [dkNew] at this; omega) (by simp; omega)
          rw [h2, List.getElem?_set_ne (Ne.symm hmb)]
          refine h1.trans ?_
          exact List.getElem?_append_left hm
      · show ((pages.filter fun p => decide (p < 1000)).map fun p => D.int (own - idxOf p)).all (pl 4) = true
        rw [List.all_map, List.all_eq_true]
        intro x hx
        rfl
end W95

namespace W95
open PySem PySem.Spec PyProof.Rows L2 DZ
variable {S : Store}
/-! ### the ledge -/
structure LdAt (S : Store) (L n i j k a b : Nat) (st : Sit) : Prop where
  o : S[L]? = some (.ins "Ledge" [("disk", .loc n), ("needed", .loc a), ("gone", .loc b)])
  r : RunAt S n i j k a b st
theorem LdAt.ln {L n i j k a b : Nat} {st : Sit} (h : LdAt S L n i j k a b st) : L ≠ n := by rintro rfl; have := h.o.symm.trans h.r.xd.o; simp at this
theorem LdAt.li {L n i j k a b : Nat} {st : Sit} (h : LdAt S L n i j k a b st) : L ≠ i := by rintro rfl; have := h.o.symm.trans h.r.xd.c; simp at this
theorem LdAt.lj {L n i j k a b : Nat} {st : Sit} (h : LdAt S L n i j k a b st) : L ≠ j := by rintro rfl; have := h.o.symm.trans h.r.xd.t; simp at this
theorem LdAt.lk {L n i j k a b : Nat} {st : Sit} (h : LdAt S L n i j k a b st) : L ≠ k := by rintro rfl; have := h.o.symm.trans h.r.xd.q; simp at this
theorem LdAt.la {L n i j k a b : Nat} {st : Sit} (h : LdAt S L n i j k a b st) : L ≠ a := by rintro rfl; have := h.o.symm.trans h.r.xa; simp at this
theorem LdAt.lb {L n i j k a b : Nat} {st : Sit} (h : LdAt S L n i j k a b st) : L ≠ b := by rintro rfl; have := h.o.symm.trans h.r.xb; simp at this
def ldNew (L m : Nat) : List Cell := .ins "Ledge" [("disk", .loc (L + 1)), ("needed", .loc (L + 5)), ("gone", .loc (L + 6))] :: (dkNew (L + 1) m ++ [.lst [], .lst []])
theorem r_ledge {m : Nat} (h0 : 0 < m) (hm : m ≤ 400) : F_Ledge___init__ [.loc S.length, .int (m : Nat)] (S ++ [.ins "Ledge" []]) = some (.non, S ++ ldNew S.length m) := by
  have e := r_disk (S := S ++ [.ins "Ledge" []]) h0 hm
  simp only [List.length_append, List.length_singleton, List.append_assoc] at e
  simp only [List.singleton_append] at e
  simp [F_Ledge___init__, B_Ledge___init__, runF, e]
  simp [ldNew, dkNew, dkFs]
theorem ld_at {m : Nat} : LdAt (S ++ ldNew S.length m) S.length (S.length + 1) (S.length + 2) (S.length + 3) (S.length + 4) (S.length + 5) (S.length + 6) ⟨Dk.new m, [], []⟩ := by
  refine ⟨by simp [ldNew], ⟨⟨?_, ?_, ?_, ?_, by omega, by omega, by omega⟩, ?_, ?_, by omega, by omega, by omega, by omega, by omega, by omega, by omega, by omega, by omega⟩⟩
  all_goals simp [ldNew, dkNew, dkFs]
def LdPost (S : Store) (L n i j k a b : Nat) (st' : Sit) (S2 : Store) : Prop := ∃ k2, (k2 = k ∨ S.length ≤ k2) ∧ LdAt S2 L n i j k2 a b st' ∧ Chg [n, i, j, k, a, b] S S2
theorem r_ltake {L n i j k a b : Nat} {st st' : Sit} {p : Stp} (h : LdAt S L n i j k a b st) (hs : st.step p = some st') :
    Ok (F_Ledge_take [.loc L, eStp p] S) fun r => r.1 = .non ∧ LdPost S L n i j k a b st' r.2 := by
  have ok := step_ok hs
  have okd := okB_d ok
  have R := h.r
  have ok0 := ok
  simp only [Sit.okB, Bool.and_eq_true, decide_eq_true_eq] at ok
  unfold Sit.step at hs
  rw [if_pos ok0] at hs
  cases p with
  | put x p =>
    simp only at hs
    split at hs
    · rename_i hac
      cases hs
      have e5 := r_put (p := p) R.xd hac (by have := (Dk.okB.sm okd).q; omega)
      refine Ok.eq (a := (.non, S.set k (.lst ((st.d.queue ++ [(x, p)]).map eQ)))) (by
        have a0 : atI [D.str "put", D.int (x : Nat), D.int p] 0 = some (.str "put") := rfl
        have a1 : atI [D.str "put", D.int (x : Nat), D.int p] 1 = some (.int (x : Nat)) := rfl
        have a2 : atI [D.str "put", D.int (x : Nat), D.int p] 2 = some (.int p) := rfl
        simp only [eR] at e5
        simp [F_Ledge_take, B_Ledge_take, runF, eStp, a0, a1, a2, ins_loc h.o, ins_loc R.xd.o, e5, -List.map_append]) ?_
      exact ⟨rfl, k, .inl rfl, ⟨(List.getElem?_set_ne h.lk.symm).trans h.o, R.xd.put, (List.getElem?_set_ne R.ak.symm).trans R.xa, (List.getElem?_set_ne R.bk.symm).trans R.xb, R.ne, R.an, R.ai, R.aj, R.ak, R.bn, R.bi, R.bj, R.bk⟩, Chg.set (by simp)⟩
    · cases hs
  | flush =>
    cases hs
    obtain ⟨⟨v, S2⟩, e5, rfl, k2, hk2, d2, c2⟩ := r_flush R.xd (Dk.okB.wf okd)
    have hL := lt_of_get h.o
    have ha := lt_of_get R.xa
    have hb := lt_of_get R.xb
    refine Ok.eq (a := (.non, S2)) (by
        simp [F_Ledge_take, B_Ledge_take, runF, eStp, atS1, ins_loc h.o, ins_loc R.xd.o, e5]) ?_
    refine ⟨rfl, k2, .inr hk2, ⟨c2.get h.o ?_, d2, c2.get R.xa ?_, c2.get R.xb ?_, R.ne, R.an, R.ai, R.aj, by omega, R.bn, R.bi, R.bj, by omega⟩, c2.mono fun m h => by simp at h ⊢; omega⟩
    · simp [h.ln, h.li, h.lj]
    · simp [R.an, R.ai, R.aj]
    · simp [R.bn, R.bi, R.bj]
  | need p =>
    cases hs
    have hl : st.needed.length < 1000000 := by omega
    refine Ok.eq (a := (.non, S.set a (.lst ((st.needed ++ [p]).map .int)))) (by
        simp [F_Ledge_take, B_Ledge_take, runF, eStp, atS2_0, atS2_1, ins_loc h.o, lst_loc R.xa, mAppend, locOf_loc R.xa, hl]) ?_
    exact ⟨rfl, k, .inl rfl, ⟨(List.getElem?_set_ne h.la.symm).trans h.o, R.xd.other R.an R.ai R.aj R.ak, set_self' R.xa, (List.getElem?_set_ne R.ne).trans R.xb, R.ne, R.an, R.ai, R.aj, R.ak, R.bn, R.bi, R.bj, R.bk⟩, Chg.set (by simp)⟩
  | free p =>
    simp only at hs
    split at hs
    · rename_i hp
      cases hs
      refine Ok.eq (a := (.non, S.set a (.lst ((st.needed.erase p).map .int)))) (by
        simp [F_Ledge_take, B_Ledge_take, runF, eStp, atS2_0, atS2_1, ins_loc h.o, lst_loc R.xa, mRemove, locOf_loc R.xa, intsOf_map', hp]) ?_
      exact ⟨rfl, k, .inl rfl, ⟨(List.getElem?_set_ne h.la.symm).trans h.o, R.xd.other R.an R.ai R.aj R.ak, set_self' R.xa, (List.getElem?_set_ne R.ne).trans R.xb, R.ne, R.an, R.ai, R.aj, R.ak, R.bn, R.bi, R.bj, R.bk⟩, Chg.set (by simp)⟩
    · cases hs
  | gone p =>
    cases hs
    have hl : st.gone.length < 1000000 := by omega
    refine Ok.eq (a := (.non, S.set b (.lst ((st.gone ++ [p]).map .int)))) (by
        simp [F_Ledge_take, B_Ledge_take, runF, eStp, atS2_0, atS2_1, ins_loc h.o, lst_loc R.xb, mAppend, locOf_loc R.xb, hl]) ?_
    exact ⟨rfl, k, .inl rfl, ⟨(List.getElem?_set_ne h.lb.symm).trans h.o, R.xd.other R.bn R.bi R.bj R.bk, (List.getElem?_set_ne R.ne.symm).trans R.xa, set_self' R.xb, R.ne, R.an, R.ai, R.aj, R.ak, R.bn, R.bi, R.bj, R.bk⟩, Chg.set (by simp)⟩
theorem in123 {x : Int} : inD S (.int x) (.tup [.int 1, .int 2, .int 3]) = some (decide (x ∈ [1, 2, 3])) := in_intsT (l := [1, 2, 3])
theorem inNG {x : String} : inD S (.str x) (.tup [.str "need", .str "gone"]) = some (decide (x = "need" ∨ x = "gone")) := by
  rw [in_plT (by simp [pl, strOk_of]) (by simp [pl, strOk_of])]
  simp
def Sit.may (s : Sit) : Stp → Bool
  | .put a q => decide (0 ≤ q) && decide (q ≤ 1000) && (decide (a < s.d.cells.length) && !decide (q ∈ s.gone))
  | .flush => true
  | .need q => decide (0 ≤ q) && decide (q ≤ 1000) && (!decide (q = 1000) && (!decide (q ∈ s.needed) && !decide (q ∈ s.gone)))
  | .free q => decide (0 ≤ q) && decide (q ≤ 1000) && (!decide (q = 1000) && decide (q ∈ s.needed))
  | .gone q => decide (0 ≤ q) && decide (q ≤ 1000) && (!decide (q = 1000) && (!decide (q ∈ s.needed) && !decide (q ∈ s.gone)))
theorem r_may {L n i j k a b : Nat} {st : Sit} {p : Stp} (h : LdAt S L n i j k a b st) (hm : st.may p = true) : F_Ledge_may [.loc L, eStp p] S = some (.bl true, S) := by
  have R := h.r
  cases p with
  | put x q =>
    simp only [Sit.may, Bool.and_eq_true, decide_eq_true_eq] at hm
    obtain ⟨⟨h1, h2⟩, h3, h4⟩ := hm
    have h4' : ¬ q ∈ st.gone := by simpa using h4
    have a0 : atI [D.str "put", D.int (x : Nat), D.int q] 0 = some (.str "put") := rfl
    have a1 : atI [D.str "put", D.int (x : Nat), D.int q] 1 = some (.int (x : Nat)) := rfl
    have h3' : (x : Int) ≤ (st.d.cells.length : Int) - 1 := by omega
    simp [F_Ledge_may, B_Ledge_may, runF, eStp, a0, a1, atS3_m, in123, r_is_number, h1, h2, ins_loc h.o, ins_loc R.xd.o, r_size R.xd, h3', in_intsC R.xb, h4']
  | flush =>
    simp [F_Ledge_may, B_Ledge_may, runF, eStp, atS1, atS1_m, in123]
  | need q =>
    simp only [Sit.may, Bool.and_eq_true, decide_eq_true_eq] at hm
    obtain ⟨⟨h1, h2⟩, h3, h4, h5⟩ := hm
    have h3' : ¬ q = 1000 := by simpa using h3
    have h4' : ¬ q ∈ st.needed := by simpa using h4
    have h5' : ¬ q ∈ st.gone := by simpa using h5
    simp [F_Ledge_may, B_Ledge_may, runF, eStp, atS2_0, atS2_1, atS2_m, in123, r_is_number, h1, h2, h3', ins_loc h.o, inNG, in_intsC R.xa, in_intsC R.xb, h4', h5']
  | free q =>
    simp only [Sit.may, Bool.and_eq_true, decide_eq_true_eq] at hm
    obtain ⟨⟨h1, h2⟩, h3, h4⟩ := hm
    have h3' : ¬ q = 1000 := by simpa using h3
    simp [F_Ledge_may, B_Ledge_may, runF, eStp, atS2_0, atS2_1, atS2_m, in123, r_is_number, h1, h2, h3', ins_loc h.o, inNG, in_intsC R.xa, in_intsC R.xb, h4]
  | gone q =>
    simp only [Sit.may, Bool.and_eq_true, decide_eq_true_eq] at hm
    obtain ⟨⟨h1, h2⟩, h3, h4, h5⟩ := hm
    have h3' : ¬ q = 1000 := by simpa using h3
    have h4' : ¬ q ∈ st.needed := by simpa using h4
    have h5' : ¬ q ∈ st.gone := by simpa using h5
    simp [F_Ledge_may, B_Ledge_may, runF, eStp, atS2_0, atS2_1, atS2_m, in123, r_is_number, h1, h2, h3', ins_loc h.o, inNG, in_intsC R.xa, in_intsC R.xb, h4', h5']
end W95

namespace W95
open PySem PySem.Spec PyProof.Rows L2 DZ
variable {S : Store}
def Sit.sure (s : Sit) (p : Int) : Bool := s.d.cells.zipIdx.any fun x => decide (x.1 = some (some p)) && !decide (x.2 ∈ s.d.queue.map (·.1))
theorem pl_cel (c : Cel) : pl 60 (eCel c) = true := by rcases c with _ | _ | a <;> first | rfl | simp [eCel, pl, strOk_of]
theorem eCel_row {c : Cel} {p : Int} : eCel c = .tup [.int p] ↔ c = some (some p) := by
  rcases c with _ | _ | a <;> simp [eCel, eR]
theorem in_natsL {l : List Nat} {p : Nat} : inD S (.int (p : Nat)) (.lst (l.map fun i => .int (i : Nat))) = some (decide (p ∈ l)) := by
  have := in_plL (S := S) (a := eN p) (xs := l.map eN) rfl (all_pl fun _ _ => rfl)
  rw [in_enc (enc := eN) fun a b e => by simp [eN] at e; exact_mod_cast e] at this
  exact this
theorem r_sure {L n i j k a b : Nat} {st : Sit} {p : Int} (h : LdAt S L n i j k a b st) (ok : st.d.okB = true) : F_Ledge_is_sure [.loc L, .int p] S = some (.bl (st.sure p), S) := by
  have R := h.r
  have sm := Dk.okB.sm ok
  have wf := Dk.okB.wf ok
  have l1 : st.d.queue.length ≤ 1000000 := by have := sm.q; omega
  have l2 : st.d.cells.length ≤ 1000000 := by have := sm.n; have := wf.t; omega
  have c1 : compGo (Src.ok ⟨st.d.queue.map eQ, [(k, .lst (st.d.queue.map eQ))]⟩) (gTupF 2 (gConsF (gVar 3) (gConsF (gVar 4) gNilF))) tTrue (eVar 3) [some (.loc L), some (.int p), none, none, none] (st.d.queue.map eQ) S = some (st.d.queue.map fun q => .int (q.1 : Nat), S) := by
    rw [comp_mapT eQ (fun q => .int (q.1 : Nat)) (by simpa using R.xd.q) st.d.queue fun q hq => ⟨_, by simp [eQ]; rfl, by simp⟩]
  have e1 : (st.d.queue.map fun q : Nat × Int => D.int (q.1 : Nat)) = (st.d.queue.map (·.1)).map fun i => .int (i : Nat) := by simp
  rw [e1] at c1
  have c2 : compGo (Src.ok ⟨enumD 0 (st.d.cells.map eCel), []⟩) (gTupF 2 (gConsF (gVar 3) (gConsF (gVar 4) gNilF))) tTrue (eAnd (eBin opEq (eVar 4) (eTup (aCons (eVar 1) aNil))) (eBin opNotIn (eVar 3) (eVar 2))) [some (.loc L), some (.int p), some (.lst ((st.d.queue.map (·.1)).map fun i => .int (i : Nat))), none, none] (enumD 0 (st.d.cells.map eCel)) S = some (st.d.cells.zipIdx.map fun x => .bl (decide (x.1 = some (some p)) && !decide (x.2 ∈ st.d.queue.map (·.1))), S) := by
    have e2 : enumD 0 (st.d.cells.map eCel) = st.d.cells.zipIdx.map fun x => .tup [.int (x.2 : Nat), eCel x.1] := by
      rw [enumD_eq, List.zipIdx_map]
      simp [Function.comp_def]
    rw [e2]
    rw [comp_mapT (fun x : Cel × Nat => .tup [.int (x.2 : Nat), eCel x.1]) (fun x => .bl (decide (x.1 = some (some p)) && !decide (x.2 ∈ st.d.queue.map (·.1)))) (by simp) st.d.cells.zipIdx fun x hx => ⟨_, by simp; rfl, by
      have q1 := eq_pl (S := S) (pl_cel x.1) (show pl 60 (.tup [.int p]) = true from rfl)
      have q2 := in_natsL (S := S) (l := st.d.queue.map (·.1)) (p := x.2)
      by_cases hc : x.1 = some (some p)
      · have q3 : eqD S (.tup [.int p]) (.tup [.int p]) = some true := by
          have := eq_pl (S := S) (a := .tup [.int p]) (b := .tup [.int p]) rfl rfl
          simpa using this
        simp only [List.map_map] at q2
        simp [q2, q3, hc, eCel, eR]
      · have : ¬ eCel x.1 = .tup [.int p] := fun e => hc (eCel_row.mp e)
        simp [q1, this, hc]⟩]
  have b1 := blsOf_map' (fun x : Cel × Nat => decide (x.1 = some (some p)) && !decide (x.2 ∈ st.d.queue.map (·.1))) st.d.cells.zipIdx
  have l3 : (enumD 0 (st.d.cells.map eCel)).length ≤ 1000000 := by rw [enumD_length, List.length_map]; exact l2
  simp [-List.map_map, F_Ledge_is_sure, B_Ledge_is_sure, runF, ins_loc h.o, ins_loc R.xd.o, src_loc R.xd.q, l1, c1, r_safe R.xd, l3, c2, b1]
  simp [Sit.sure, List.any_map, Function.comp_def]
def minI (l : List Int) : Int := match minL l with
  | some m => m
  | none => 0
def Sit.fault (s : Sit) : Option (Bool × Int) :=
  if s.needed.filter (fun p => !s.sure p) = [] then
    if s.gone.filter (fun p => s.d.look.any fun here => decide (p ∈ here)) = [] then none else some (false, minI (s.gone.filter fun p => s.d.look.any fun here => decide (p ∈ here)))
  else some (true, minI (s.needed.filter fun p => !s.sure p))
def eFault : Option (Bool × Int) → D
  | none => .non
  | some (true, p) => .tup [.str "lost", .int p]
  | some (false, p) => .tup [.str "seen", .int p]
theorem ne_nil {l : List Int} : eqD S (.lst (l.map .int)) (.lst []) = some (decide (l = [])) := by
  rw [eq_pl (show pl 60 (.lst (l.map .int)) = true from by show (l.map D.int).all (pl 59) = true; rw [List.all_map, List.all_eq_true]; intro x _; rfl) rfl]
  simp
theorem min_some {l : List Int} (h : l ≠ []) : minL l = some (minI l) := by
  cases l with
  | nil => exact absurd rfl h
  | cons a l => rfl
theorem r_fault {L n i j k a b : Nat} {st : Sit} (h : LdAt S L n i j k a b st) (ok : st.okB = true) : F_Ledge_fault [.loc L] S = some (eFault st.fault, S) := by
  have R := h.r
  have okd := okB_d ok
  have sm := Dk.okB.sm okd
  simp only [Sit.okB, Bool.and_eq_true, decide_eq_true_eq] at ok
  have l1 : st.needed.length ≤ 1000000 := by omega
  have l2 : st.gone.length ≤ 1000000 := by omega
  have c1 : ∀ o1 o2, compGo (Src.ok ⟨st.needed.map .int, [(a, .lst (st.needed.map .int))]⟩) (gVar 3) (tNotF (tOf (eMeth "Ledge" "is_sure" 2 F_Ledge_is_sure (eVar 0) (aCons (eVar 3) aNil)))) (eVar 3) [some (.loc L), o1, o2, none] (st.needed.map .int) S = some ((st.needed.filter fun p => !st.sure p).map .int, S) := fun o1 o2 => by
    rw [comp_map D.int (fun p => !st.sure p) (fun p => .int p) (by simpa using R.xa) st.needed fun p hp => ⟨_, by simp; rfl, by simp [ins_loc h.o, r_sure h okd], fun _ => by simp⟩]
  have c2 : ∀ o1 o2, compGo (Src.ok ⟨st.gone.map .int, [(b, .lst (st.gone.map .int))]⟩) (gVar 3) (tOf (eMeth "Disk" "shows" 2 F_Disk_shows (eFld ["Ledge"] "disk" (eVar 0)) (aCons (eTup (aCons (eVar 3) aNil)) aNil))) (eVar 3) [some (.loc L), o1, o2, none] (st.gone.map .int) S = some ((st.gone.filter fun p => st.d.look.any fun here => decide (p ∈ here)).map .int, S) := fun o1 o2 => by
    rw [comp_map D.int (fun p => st.d.look.any fun here => decide (p ∈ here)) (fun p => .int p) (by simpa using R.xb) st.gone fun p hp => ⟨_, by simp; rfl, by
      have := r_shows (p := p) R.xd sm
      simp only [eR] at this
      simp [ins_loc h.o, ins_loc R.xd.o, this], fun _ => by simp⟩]
  unfold Sit.fault
  generalize hlost : (st.needed.filter fun p => !st.sure p) = lost at *
  generalize hseen : (st.gone.filter fun p => st.d.look.any fun here => decide (p ∈ here)) = seen at *
  by_cases h1 : lost = []
  · subst h1
    by_cases h2 : seen = []
    · subst h2
      have := ne_nil (S := S) (l := [])
      simp at this
      simp at c1 c2
      simp [F_Ledge_fault, B_Ledge_fault, runF, ins_loc h.o, src_loc R.xa, src_loc R.xb, l1, l2, c1, c2, eFault, this]
    · have := ne_nil (S := S) (l := [])
      simp at this
      simp at c1
      simp [F_Ledge_fault, B_Ledge_fault, runF, ins_loc h.o, src_loc R.xa, src_loc R.xb, l1, l2, c1, c2, ne_nil, eFault, this, h2, intsOf_map', min_some h2]
  · simp [F_Ledge_fault, B_Ledge_fault, runF, ins_loc h.o, src_loc R.xa, src_loc R.xb, l1, l2, c1, c2, ne_nil, eFault, h1, intsOf_map', min_some h1]
end W95

namespace W95
open PySem PySem.Spec PyProof.Rows L2 DZ
variable {S : Store}
def Sit.plan (s : Sit) : List Stp → Bool
  | [] => true
  | p :: ps => s.may p && match s.step p with
    | some s' => s'.plan ps
    | none => false
theorem plan_at : ∀ (xs : List Stp) {s st : Sit} {t : Nat} {x : Stp}, s.plan xs = true → xs[t]? = some x → s.run (xs.take t) = some st → st.may x = true ∧ ∃ st', st.step x = some st' ∧ s.run (xs.take (t + 1)) = some st'
  | [], s, st, t, x, _, hx, _ => by simp at hx
  | p :: ps, s, st, t, x, h, hx, hr => by
    simp only [Sit.plan, Bool.and_eq_true] at h
    cases hs : s.step p with
    | none => rw [hs] at h; simp at h
    | some s' =>
      rw [hs] at h
      cases t with
      | zero =>
        simp at hx; subst hx
        simp [Sit.run] at hr; subst hr
        exact ⟨h.1, s', hs, by simp [Sit.run, hs]⟩
      | succ t =>
        have hr' : s'.run (ps.take t) = some st := by
          rw [List.take_succ_cons] at hr
          simpa [Sit.run, hs] using hr
        obtain ⟨h1, st', h2, h3⟩ := plan_at ps h.2 (by simpa using hx) hr'
        exact ⟨h1, st', h2, by rw [List.take_succ_cons]; simpa [Sit.run, hs] using h3⟩
def Sit.new (slots : Nat) : Sit := ⟨Dk.new slots, [], []⟩
theorem r_is_plan {slots : Nat} {plan : List Stp} (h0 : 0 < slots) (h1 : slots ≤ 400) (hl : plan.length ≤ 200) (hp : (Sit.new slots).plan plan = true) : F_is_plan [.int (slots : Nat), .tup (plan.map eStp)] S = some (.bl true, S) := by
  refine drop_same ?_
  have e := r_ledge (S := S) h0 h1
  have hl2 : ¬ (200 : Int) < plan.length := by omega
  simp [B_is_plan, runF, hl2, e]
  refine for_ex0 (fun t ρ S' => ∃ o3 st k', ρ = [some (.int (slots : Nat)), some (.tup (plan.map eStp)), some (.loc S.length), o3] ∧ (Sit.new slots).run (plan.take t) = some st ∧ S.length ≤ k' ∧ LdAt S' S.length (S.length + 1) (S.length + 2) (S.length + 3) k' (S.length + 5) (S.length + 6) st ∧ Chg [] S S') _ ⟨_, _, _, rfl, rfl, by omega, ld_at, Chg.add⟩ ?_ ?_
  · rintro t x ρ S' hx ⟨o3, st, k', rfl, hr, hk, A, c⟩
    obtain ⟨y, e1, rfl⟩ := map_at hx
    obtain ⟨hm, st', hs, hr'⟩ := plan_at plan hp e1 hr
    obtain ⟨⟨v, S2⟩, e2, rfl, k2, hk2, A2, c2⟩ := r_ltake A hs
    refine ⟨by simp, ?_⟩
    refine Ok.eq (a := ([some (.int (slots : Nat)), some (.tup (plan.map eStp)), some (.loc S.length), some (eStp y)], S')) rfl ?_
    refine Ok.eq (a := (.nx, [some (.int (slots : Nat)), some (.tup (plan.map eStp)), some (.loc S.length), some (eStp y)], S2)) (by simp [ins_loc A.o, r_may A hm, e2]) ?_
    have := c.le
    refine ⟨_, st', k2, rfl, hr', by omega, A2, c.trans c2 fun m hm h => by simp at h; omega⟩
  · rintro ρ S' ⟨o3, st, k', rfl, hr, hk, A, c⟩
    refine ⟨by simp, ?_⟩
    simp [c, frz_bl]
/-- what plan_fault tells -/
def pf : Nat → Sit → List Stp → Option (Option (Nat × Bool × Int))
  | _, _, [] => some none
  | t, s, p :: ps => (s.step p).bind fun s' => if s'.okB = true then match s'.fault with
      | none => pf (t + 1) s' ps
      | some (w, q) => some (some (t + 1, w, q))
    else none
def ePf (c : Nat) (q : Int) : D := .obj "PlanFault" [("cut", .int (c : Nat)), ("torn", .tup []), ("word", .str "seen"), ("page", .int q)]
theorem r_pf_init {c : Nat} {q : Int} : F_PlanFault___init__ [.loc S.length, .int ((c : Nat) + 1), .tup [], .str "seen", .int q] (S ++ [.ins "PlanFault" []]) = some (.non, S ++ [.ins "PlanFault" [("cut", .int ((c : Nat) + 1)), ("torn", .tup []), ("word", .str "seen"), ("page", .int q)]]) := by
  simp [F_PlanFault___init__, B_PlanFault___init__, runF]
def pfD : Option (Nat × Bool × Int) → D
  | none => .non
  | some (c, _, q) => ePf c q
theorem r_plan_fault {slots : Nat} {plan : List Stp} {out : Option (Nat × Bool × Int)} (h0 : 0 < slots) (h1 : slots ≤ 400) (hp : pf 0 (Sit.new slots) plan = some out) (ho : ∀ c w q, out = some (c, w, q) → w = false) : F_plan_fault [.int (slots : Nat), .tup (plan.map eStp)] S = some (pfD out, S) := by
  refine drop_same ?_
  have e := r_ledge (S := S) h0 h1
  simp [B_plan_fault, runF, e]
  refine for_ex0 (fun t ρ S' => ∃ o3 o4 o5 st k', ρ = [some (.int (slots : Nat)), some (.tup (plan.map eStp)), some (.loc S.length), o3, o4, o5, none] ∧ pf t st (plan.drop t) = some out ∧ S.length ≤ k' ∧ LdAt S' S.length (S.length + 1) (S.length + 2) (S.length + 3) k' (S.length + 5) (S.length + 6) st ∧ Chg [] S S') _ ⟨_, _, _, Sit.new slots, _, rfl, hp, by omega, ld_at, Chg.add⟩ ?_ ?_
  · rintro t x ρ S' hx ⟨o3, o4, o5, st, k', rfl, hr, hk, A, c⟩
    obtain ⟨y, e1, rfl⟩ := enum_at' hx
    have hd : plan.drop t = y :: plan.drop (t + 1) := by
      obtain ⟨hlt, e⟩ := List.getElem?_eq_some_iff.mp e1
      rw [List.drop_eq_getElem_cons hlt, e]
    rw [hd, pf] at hr
    obtain ⟨st', hs, hr⟩ := obind hr
    split at hr
    rotate_left
    · cases hr
    rename_i hok
    obtain ⟨⟨v, S2⟩, e2, rfl, k2, hk2, A2, c2⟩ := r_ltake A hs
    refine ⟨by simp, ?_⟩
    refine Ok.eq (a := ([some (.int (slots : Nat)), some (.tup (plan.map eStp)), some (.loc S.length), some (.int (t : Nat)), some (eStp y), o5, none], S')) (by simp) ?_
    have hle := c.le
    have c3 : Chg [] S S2 := c.trans c2 fun m hm h => by simp at h; omega
    have e3 := r_fault A2 hok
    cases hf : st'.fault with
    | none =>
      rw [hf] at hr e3
      refine Ok.eq (a := (.nx, [some (.int (slots : Nat)), some (.tup (plan.map eStp)), some (.loc S.length), some (.int (t : Nat)), some (eStp y), some .non, none], S2)) (by simp [ins_loc A.o, e2, ins_loc A2.o, e3, eFault]) ?_
      exact ⟨_, _, _, st', k2, rfl, hr, by omega, A2, c3⟩
    | some wq =>
      obtain ⟨w, q⟩ := wq
      rw [hf] at hr e3
      cases hr
      have := ho _ _ _ rfl
      subst this
      refine Ok.eq (a := (.rt (.loc S2.length), [some (.int (slots : Nat)), some (.tup (plan.map eStp)), some (.loc S.length), some (.int (t : Nat)), some (eStp y), some (.tup [.str "seen", .int q]), some (.tup [])], S2 ++ [.ins "PlanFault" [("cut", .int ((t : Nat) + 1)), ("torn", .tup []), ("word", .str "seen"), ("page", .int q)]])) (by
        simp [ins_loc A.o, e2, ins_loc A2.o, e3, eFault, atS2_0, atS2_1, r_pf_init]) ?_
      have hS2 := c3.le
      refine Ok.eq (a := _) rfl ?_
      refine Ok.eq (a := (D.loc S2.length, S2 ++ [Cell.ins "PlanFault" [("cut", .int ((t : Nat) + 1)), ("torn", .tup []), ("word", .str "seen"), ("page", .int q)]])) rfl ⟨c3.push, ?_⟩
      have nl : ¬ S2.length < S.length := by omega
      simp [frzDeep, frz, nl, frzF, frzL, pfD, ePf]
  · rintro ρ S' ⟨o3, o4, o5, st, k', rfl, hr, hk, A, c⟩
    refine ⟨by simp, ?_⟩
    have : plan.drop (enumD 0 (plan.map eStp)).length = [] := by rw [enumD_length, List.length_map, List.drop_length]
    rw [this, pf] at hr
    cases hr
    simp [c, pfD]
    rfl
theorem eStp_flush {s : Stp} : eStp s = .tup [.str "flush"] ↔ s = .flush := by cases s <;> simp [eStp]
theorem pl_eStp (s : Stp) : pl 60 (eStp s) = true := by cases s <;> simp [eStp, pl, strOk_of]
theorem eq_flush {s : Stp} : eqD S (eStp s) (.tup [.str "flush"]) = some (decide (s = .flush)) := by
  rw [eq_pl (pl_eStp s) (by simp [pl, strOk_of])]
  congr 1
  rw [decide_eq_decide]
  exact eStp_flush
theorem r_flushes {plan : List Stp} (hl : plan.length ≤ 1000000) : F_flushes_in [.tup (plan.map eStp)] S = some (.int (plan.filter fun s => decide (s = .flush)).length, S) := by
  simp [F_flushes_in, B_flushes_in, runF, hl]
  rw [comp_map eStp (fun s => decide (s = .flush)) eStp (by simp) plan fun x hx => ⟨_, by simp; rfl, by simp [eq_flush], fun _ => by simp⟩]
  simp
end W95

namespace W95
open PySem PySem.Spec PyProof.Rows L2 DZ
variable {S : Store}
/-! ### the plans -/
def promptAt (i : Nat) : List Stp := [.put (1 - i % 2) (i + 1), .flush, .need (i + 1), .free i, .put (i % 2) 1000, .flush, .gone i]
def lagAt (i : Nat) : List Stp := [.put (1 - i % 2) (i + 1), .flush, .need (i + 1), .free i] ++ if 0 < i then [.gone ((i : Int) - 1)] else []
def dealAt (i : Nat) : List Stp := [.put ((2 * i + 1) % 3) (500 + i), .flush, .need (500 + i), .put ((2 * i + 2) % 3) (i + 1), .flush, .need (i + 1), .free (500 + i), .free i, .put (2 * i % 3) 1000, .put ((2 * i + 1) % 3) 1000, .flush, .gone (500 + i), .gone i]
def start0 : List Stp := [.put 0 0, .flush, .need 0]
def promptP (m : Nat) : List Stp := start0 ++ (List.range m).flatMap promptAt
def lagP (m : Nat) : List Stp := start0 ++ (List.range m).flatMap lagAt
def dealP (m : Nat) : List Stp := start0 ++ (List.range m).flatMap dealAt
def keptOk (slots : Nat) (plan : List Stp) (pat : Int) : Bool :=
  decide (plan.length ≤ 200) && (decide (0 ≤ pat) && ((match pf 0 (Sit.new slots) plan with
    | some none => true
    | _ => false) && ((Sit.new slots).plan plan && ((List.range (plan.length + 1)).all (fun many => match cutOk slots plan pat many with
    | some l => l.all fun x => decide (x ≤ pat)
    | none => false) && (decide ((plan.filter fun s => decide (s = .flush)).length < 4) || (List.range (min 40 (plan.length + 1))).any fun many => match cutOk slots plan pat many with
    | some l => decide (pat ∈ l)
    | none => false)))))
theorem cutOk_len {slots many : Nat} {plan : List Stp} {pat : Int} {l : List Int} (h : cutOk slots plan pat many = some l) : l.length ≤ 1000 := by
  obtain ⟨st, _, h⟩ := obind h
  split at h
  rotate_left
  · cases h
  obtain ⟨own, _, h⟩ := obind h
  split at h
  rotate_left
  · cases h
  rename_i hchk
  cases h
  simp only [Bool.and_eq_true, decide_eq_true_eq] at hchk
  have := List.length_filter_le (fun p : Int => decide (p < 1000)) st.d.pages
  rw [List.length_map]
  omega
theorem kept_start {b : Nat} {plan : List Stp} {slots : Nat} {s' : SF} {P : Fl × DZ.Env × Store → Prop} {ρ : DZ.Env} (e1 : F_plan_fault [.int (slots : Nat), .tup (plan.map eStp)] S = some (.non, S)) (e2 : F_is_plan [.int (slots : Nat), .tup (plan.map eStp)] S = some (.bl true, S)) (h : Ok (s' (some (.loc b) :: some (.int (slots : Nat)) :: some (.tup (plan.map eStp)) :: ρ) S) P) : Ok (sSeq (sIf (tOrF (tOf (eBin opIsNot (eDef 2 F_plan_fault (aCons (eVar 1) (aCons (eVar 2) aNil))) (eC .non))) (tOf (eBin opIsNot (eDef 2 F_is_plan (aCons (eVar 1) (aCons (eVar 2) aNil))) (eC (.bl true))))) (sRet (eC (.bl false))) (sNil)) s' (some (.loc b) :: some (.int (slots : Nat)) :: some (.tup (plan.map eStp)) :: ρ) S) P := by
  simp [e1, e2, h]
theorem ok_asgC {d : D} {i : Nat} {s' : SF} {ρ : DZ.Env} {P : Fl × DZ.Env × Store → Prop} (h : Ok (s' (ρ.set i (some d)) S) P) : Ok (sSeq (sAsg (eC d) (gVar i)) s' ρ S) P := h
theorem run_ok {N : Nat} {f : SF} {ds : List D} {P : D × Store → Prop} (h : Ok (f (ds.map some ++ List.replicate (N - ds.length) none) S) fun r => Ok (match r.1 with
  | .nx => some (.non, r.2.2)
  | .rt d => some (d, r.2.2)
  | _ => none) P) : Ok (runF N f ds S) P := by
  unfold runF
  rw [Ok_bind]
  exact h
theorem r_kept' {b N slots : Nat} {c : Cell} {plan : List Stp} {pat : Int} (hb : S[b]? = some c) (hc : BoxC N c) (hN : N < 2 ^ 40) (hs : 0 < slots) (hs2 : slots ≤ 400) (h : keptOk slots plan pat = true) :
    Ok (F__law_kept [.loc b, .int (slots : Nat), .tup (plan.map eStp), .int pat] S) fun r => r.1 = .bl true ∧ ∃ c', BoxC (N + 1001 * (plan.length + 1)) c' ∧ r.2 = S.set b c' := by
  have hlt := lt_of_get hb
  simp only [keptOk, Bool.and_eq_true, decide_eq_true_eq] at h
  obtain ⟨h1, h2, h3, h4, h5, h6⟩ := h
  have e1 : F_plan_fault [.int (slots : Nat), .tup (plan.map eStp)] S = some (.non, S) := by
    cases hp : pf 0 (Sit.new slots) plan with
    | none => rw [hp] at h3; cases h3
    | some o =>
      cases o with
      | none => exact r_plan_fault hs hs2 hp fun _ _ _ z => by cases z
      | some _ => rw [hp] at h3; cases h3
  have e2 := r_is_plan (S := S) hs hs2 h1 h4
  obtain ⟨n, hn⟩ : ∃ n : Nat, n = plan.length + 1 := ⟨_, rfl⟩
  have l0 : (plan.length : Int) + 1 = (n : Int) := by omega
  have l1 : (n : Int) ≤ 1000000 := by omega
  have l2 : (-1000000 : Int) ≤ (n : Int) := by omega
  have l3 : ((n : Nat) : Int).toNat = n := Int.toNat_natCast n
  rw [← hn] at h5 h6 ⊢
  refine run_ok ?_
  show Ok (B__law_kept [some (.loc b), some (.int (slots : Nat)), some (.tup (plan.map eStp)), some (.int pat), none, none, none] S) _
  refine kept_start e1 e2 ?_
  refine ok_asgC ?_
  simp only [List.set_cons_succ, List.set_cons_zero]
  have rk : rngOk (n : Int) := ⟨l2, l1⟩
  simp [l0, rk, rngD_eq]
  have sl : (List.range n).length = n := by simp
  have key : ∀ t, t < n → ∃ l, cutOk slots plan pat t = some l ∧ ∀ x ∈ l, x ≤ pat := fun t ht => by
    have := List.all_eq_true.mp h5 t (List.mem_range.mpr ht)
    cases hq : cutOk slots plan pat t with
    | none => rw [hq] at this; cases this
    | some l =>
      rw [hq] at this
      exact ⟨l, rfl, fun x hx => by simpa using List.all_eq_true.mp this x hx⟩
  refine for_ex0 (fun t ρ S' => ∃ o o5 o6 c', ρ = [some (.loc b), some (.int (slots : Nat)), some (.tup (plan.map eStp)), some (.int pat), some (.int o), o5, o6] ∧ S' = S.set b c' ∧ BoxC (N + 1001 * t) c' ∧ 0 ≤ o ∧ o ≤ pat ∧ ∀ m, m < t → m < 40 → ∀ l, cutOk slots plan pat m = some l → ∀ x ∈ l, x ≤ o) _ ⟨0, none, none, c, rfl, ?_, hc.mono (by omega), by decide, h2, fun m hm => absurd hm (by omega)⟩ ?_ ?_
  · apply List.ext_getElem?
    intro i
    by_cases hib : i = b
    · subst hib; rw [List.getElem?_set_self hlt]; exact hb
    · rw [List.getElem?_set_ne (Ne.symm hib)]
  · rintro t x ρ S' hx ⟨o, o5, o6, c', rfl, rfl, hbx, ho1, ho2, ho3⟩
    obtain ⟨y, e5, rfl⟩ := map_at hx
    have hy : y = t ∧ t < n := by
      obtain ⟨q1, q2⟩ := List.getElem?_eq_some_iff.mp e5
      rw [List.getElem_range] at q2
      exact ⟨q2.symm, by simpa using q1⟩
    obtain ⟨rfl, hy⟩ := hy
    obtain ⟨l, hl, hle⟩ := key y hy
    refine ⟨by simp, ?_⟩
    refine Ok.eq (a := ([some (.loc b), some (.int (slots : Nat)), some (.tup (plan.map eStp)), some (.int pat), some (.int o), some (.int (y : Nat)), o6], S.set b c')) rfl ?_
    have ll := cutOk_len hl
    have l4 : 1 + l.length ≤ 1000000 := by omega
    -- with the cut made
    have cut : ∀ c1, BoxC (N + 1001 * y + 1) c1 → ∃ c2, BoxC (N + 1001 * (y + 1)) c2 ∧ F__law_cut [.loc b, .int (slots : Nat), .tup (plan.map eStp), .int pat, .int (y : Nat)] (S.set b c1) = some (.lst (l.map .int), S.set b c2) := fun c1 hc1 => by
      obtain ⟨⟨v, S3⟩, e6, rfl, c2, hc2, hS3⟩ := r_cut (set_self' (e := c1) hb) hc1 (by omega) hs hs2 hl
      have : S3 = S.set b c2 := by rw [← List.set_set (l := S) (i := b) (a := c1)]; exact hS3
      subst this
      exact ⟨c2, hc2.mono (by omega), e6⟩
    have mx : ∃ o', maxL (o :: l) = some o' ∧ 0 ≤ o' ∧ o' ≤ pat ∧ o ≤ o' ∧ ∀ x ∈ l, x ≤ o' := by
      have z := foldl_max_mem l o
      refine ⟨l.foldl max o, rfl, ?_, ?_, z.2 o List.mem_cons_self, fun x hx => z.2 x (List.mem_cons_of_mem _ hx)⟩
      · have := z.2 o List.mem_cons_self; omega
      · rcases List.mem_cons.mp z.1 with e | e
        · rw [e]; exact ho2
        · exact hle _ e
    obtain ⟨o', em, m1, m2, m3, m4⟩ := mx
    have im : intsOf (D.int o :: l.map D.int) = some (o :: l) := intsOf_map (o :: l)
    have done : ∀ c2, BoxC (N + 1001 * (y + 1)) c2 → ∃ o o5 o6 c', ([some (.loc b), some (.int (slots : Nat)), some (.tup (plan.map eStp)), some (.int pat), some (.int o'), some (.int (y : Nat)), some (.lst (l.map .int))] : DZ.Env) = [some (.loc b), some (.int (slots : Nat)), some (.tup (plan.map eStp)), some (.int pat), some (.int o), o5, o6] ∧ S.set b c2 = S.set b c' ∧ BoxC (N + 1001 * (y + 1)) c' ∧ 0 ≤ o ∧ o ≤ pat ∧ ∀ m, m < y + 1 → m < 40 → ∀ l, cutOk slots plan pat m = some l → ∀ x ∈ l, x ≤ o := fun c2 hc2 =>
      ⟨o', _, _, c2, rfl, rfl, hc2, m1, m2, fun m hm h40 l' hl' x hx => by
        by_cases hmy : m = y
        · subst hmy
          rw [hl] at hl'; cases hl'
          exact m4 x hx
        · exact Int.le_trans (ho3 m (by omega) h40 l' hl' x hx) m3⟩
    by_cases h40 : y < 40
    · obtain ⟨c2, hc2, e6⟩ := cut c' (hbx.mono (by omega))
      have h40' : (y : Int) < 40 := by omega
      refine Ok.eq (a := (.nx, [some (.loc b), some (.int (slots : Nat)), some (.tup (plan.map eStp)), some (.int pat), some (.int o'), some (.int (y : Nat)), some (.lst (l.map .int))], S.set b c2)) (by
        simp [h40, h40', e6, l4, im, em]) (done c2 hc2)
    · obtain ⟨dg, c1, e7, hc1, hdg⟩ := r_take (m := 3) (set_self' (e := c') hb) hbx (by omega) (by decide) (by decide)
      rw [List.set_set] at e7
      have h40' : ¬ (y : Int) < 40 := by omega
      by_cases hd : dg = 0
      · subst hd
        obtain ⟨c2, hc2, e6⟩ := cut c1 hc1
        simp at e7
        refine Ok.eq (a := (.nx, [some (.loc b), some (.int (slots : Nat)), some (.tup (plan.map eStp)), some (.int pat), some (.int o'), some (.int (y : Nat)), some (.lst (l.map .int))], S.set b c2)) (by
          simp [h40, h40', e7, e6, l4, im, em]) (done c2 hc2)
      · simp at e7
        refine Ok.eq (a := (.nx, [some (.loc b), some (.int (slots : Nat)), some (.tup (plan.map eStp)), some (.int pat), some (.int o), some (.int (y : Nat)), o6], S.set b c1)) (by
          simp [h40, h40', e7, hd]) ?_
        exact ⟨o, _, _, c1, rfl, rfl, hc1.mono (by omega), ho1, ho2, fun m hm h40'' => ho3 m (by omega) h40''⟩
  · rintro ρ S' ⟨o, o5, o6, c', rfl, rfl, hbx, ho1, ho2, ho3⟩
    refine ⟨by simp, ?_⟩
    rw [List.length_map, sl] at hbx ho3
    have e8 := r_flushes (S := S.set b c') (plan := plan) (by omega)
    have fin : o = pat ∨ (plan.filter fun s => decide (s = .flush)).length < 4 := by
      simp only [Bool.or_eq_true, decide_eq_true_eq] at h6
      rcases h6 with h6 | h6
      · exact .inr h6
      · obtain ⟨m, hm, hm2⟩ := List.any_eq_true.mp h6
        have hm' := List.mem_range.mp hm
        obtain ⟨l, hl, hle⟩ := key m (by omega)
        rw [hl] at hm2
        have := ho3 m (by omega) (by omega) l hl pat (by simpa using hm2)
        exact .inl (by omega)
    by_cases hop : o = pat
    · refine Ok.eq (a := (.rt (.bl true), [some (.loc b), some (.int (slots : Nat)), some (.tup (plan.map eStp)), some (.int pat), some (.int o), o5, o6], S.set b c')) (by simp [hop]) ?_
      exact Ok_some.mpr ⟨rfl, c', hbx, rfl⟩
    · have hf := fin.resolve_left hop
      have hf' : ((plan.filter fun s => decide (s = .flush)).length : Int) < 4 := by omega
      refine Ok.eq (a := (.rt (.bl true), [some (.loc b), some (.int (slots : Nat)), some (.tup (plan.map eStp)), some (.int pat), some (.int o), o5, o6], S.set b c')) (by simp [hop, e8, hf, hf']) ?_
      exact Ok_some.mpr ⟨rfl, c', hbx, rfl⟩
end W95

namespace W95
open PySem PySem.Spec PyProof.Rows L2 DZ
theorem chk_prompt : (List.range 9).all (fun m => keptOk 2 (promptP m) 1) = true := by decide +kernel
theorem chk_lag : (List.range 9).all (fun m => keptOk 2 (lagP m) 2) = true := by decide +kernel
theorem chk_deal : (List.range 5).all (fun m => keptOk 3 (dealP m) 1) = true := by decide +kernel
end W95

namespace W95
open PySem PySem.Spec PyProof.Rows L2 DZ
variable {S : Store}
theorem flat_succ {α : Type} {f : Nat → List α} {t : Nat} : (List.range (t + 1)).flatMap f = (List.range t).flatMap f ++ f t := by
  rw [List.range_succ, List.flatMap_append]; simp
theorem flat_len {α : Type} {f : Nat → List α} {k : Nat} (h : ∀ i, (f i).length ≤ k) : ∀ t, ((List.range t).flatMap f).length ≤ k * t
  | 0 => by simp
  | t + 1 => by
    rw [flat_succ, List.length_append]
    have := flat_len h t
    have := h t
    rw [Nat.mul_succ]; omega
theorem emod2 {t : Nat} : ((t : Nat) : Int) % 2 = ((t % 2 : Nat) : Int) := by omega
theorem one_sub {t : Nat} : (1 : Int) - ((t : Nat) : Int) % 2 = ((1 - t % 2 : Nat) : Int) := by omega
theorem r_prompt {m : Nat} (hm : m ≤ 1000) : F_prompt_plan [.int (m : Nat)] S = some (.tup ((promptP m).map eStp), S) := by
  have l1 : (m : Int) ≤ 1000000 := by omega
  have rk : rngOk (m : Int) := ⟨by omega, l1⟩
  have key : Ok (F_prompt_plan [.int (m : Nat)] S) fun r => r = (.tup ((promptP m).map eStp), S) := by
    refine run_ok ?_
    show Ok (B_prompt_plan [some (.int (m : Nat)), none, none] S) _
    simp [B_prompt_plan, rk, rngD_eq]
    refine for_ex0 (fun t ρ S' => t ≤ m ∧ S' = S ∧ ∃ o2, ρ = [some (.int (m : Nat)), some (.lst ((promptP t).map eStp)), o2]) _ ⟨Nat.zero_le _, rfl, _, rfl⟩ ?_ ?_
    · rintro t x ρ S' hx ⟨ht, rfl, o2, rfl⟩
      obtain ⟨y, e1, rfl⟩ := map_at hx
      obtain ⟨hlt, e2⟩ := List.getElem?_eq_some_iff.mp e1
      rw [List.getElem_range] at e2
      subst e2
      have hlt' : t < m := by simpa using hlt
      refine ⟨by simp, ?_⟩
      have hl := flat_len (f := promptAt) (k := 7) (fun i => by simp [promptAt]) t
      have hl2 : (promptP t).length ≤ 7003 := by
        have e3 : start0.length = 3 := rfl
        unfold promptP; rw [List.length_append]; omega
      have a1 : (promptP t).length + 4 ≤ 1000000 := by omega
      have a2 : (promptP t).length + 4 + 3 ≤ 1000000 := by omega
      refine Ok.eq (a := ([some (.int (m : Nat)), some (.lst ((promptP t).map eStp)), some (.int (t : Nat))], S')) rfl ?_
      have ex : (promptP (t + 1)).map eStp = (promptP t).map eStp ++ [.tup [.str "put", .int (1 - (t : Nat) % 2), .int ((t : Nat) + 1)], .tup [.str "flush"], .tup [.str "need", .int ((t : Nat) + 1)], .tup [.str "free", .int (t : Nat)]] ++ [.tup [.str "put", .int ((t : Nat) % 2), .int 1000], .tup [.str "flush"], .tup [.str "gone", .int (t : Nat)]] := by
        simp [promptP, flat_succ, promptAt, eStp, one_sub]
      rw [ex]
      have hlen : ((promptP t).map eStp).length = (promptP t).length := List.length_map _
      generalize (promptP t).map eStp = L at hlen ⊢
      have b1 : L.length + 4 ≤ 1000000 := by omega
      have b2 : L.length + 4 + 3 ≤ 1000000 := by omega
      refine Ok.eq (a := (.nx, [some (.int (m : Nat)), some (.lst (L ++ [.tup [.str "put", .int (1 - (t : Nat) % 2), .int ((t : Nat) + 1)], .tup [.str "flush"], .tup [.str "need", .int ((t : Nat) + 1)], .tup [.str "free", .int (t : Nat)]] ++ [.tup [.str "put", .int ((t : Nat) % 2), .int 1000], .tup [.str "flush"], .tup [.str "gone", .int (t : Nat)]])), some (.int (t : Nat))], S')) (by
        simp [b1, b2]) ?_
      exact ⟨by omega, rfl, _, rfl⟩
    · rintro ρ S' ⟨ht, rfl, o2, rfl⟩
      simp
  obtain ⟨r, e, rfl⟩ := key
  exact e
theorem r_lag {m : Nat} (hm : m ≤ 1000) : F_lagging_plan [.int (m : Nat)] S = some (.tup ((lagP m).map eStp), S) := by
  have l1 : (m : Int) ≤ 1000000 := by omega
  have rk : rngOk (m : Int) := ⟨by omega, l1⟩
  have key : Ok (F_lagging_plan [.int (m : Nat)] S) fun r => r = (.tup ((lagP m).map eStp), S) := by
    refine run_ok ?_
    show Ok (B_lagging_plan [some (.int (m : Nat)), none, none] S) _
    simp [B_lagging_plan, rk, rngD_eq]
    refine for_ex0 (fun t ρ S' => t ≤ m ∧ S' = S ∧ ∃ o2, ρ = [some (.int (m : Nat)), some (.lst ((lagP t).map eStp)), o2]) _ ⟨Nat.zero_le _, rfl, _, rfl⟩ ?_ ?_
    · rintro t x ρ S' hx ⟨ht, rfl, o2, rfl⟩
      obtain ⟨y, e1, rfl⟩ := map_at hx
      obtain ⟨hlt, e2⟩ := List.getElem?_eq_some_iff.mp e1
      rw [List.getElem_range] at e2
      subst e2
      have hlt' : t < m := by simpa using hlt
      refine ⟨by simp, ?_⟩
      have hl := flat_len (f := lagAt) (k := 5) (fun i => by unfold lagAt; split <;> simp) t
      have hl2 : (lagP t).length ≤ 5003 := by
        have e3 : start0.length = 3 := rfl
        unfold lagP; rw [List.length_append]; omega
      have a1 : (lagP t).length + 4 ≤ 1000000 := by omega
      have a2 : (lagP t).length + 4 + 1 ≤ 1000000 := by omega
      refine Ok.eq (a := ([some (.int (m : Nat)), some (.lst ((lagP t).map eStp)), some (.int (t : Nat))], S')) rfl ?_
      refine Ok.eq (a := (.nx, [some (.int (m : Nat)), some (.lst ((lagP (t + 1)).map eStp)), some (.int (t : Nat))], S')) (by
        by_cases h0 : 0 < t
        · simp [a1, a2, h0]
          simp [lagP, flat_succ, lagAt, eStp, one_sub, h0]
        · simp [a1, h0]
          simp [lagP, flat_succ, lagAt, eStp, one_sub, h0]) ?_
      exact ⟨by omega, rfl, _, rfl⟩
    · rintro ρ S' ⟨ht, rfl, o2, rfl⟩
      simp
  obtain ⟨r, e, rfl⟩ := key
  exact e
theorem m3a {t : Nat} : (2 * ((t : Nat) : Int)) % 3 = ((2 * t % 3 : Nat) : Int) := by omega
theorem m3b {t : Nat} : (2 * ((t : Nat) : Int) + 1) % 3 = (((2 * t + 1) % 3 : Nat) : Int) := by omega
theorem m3c {t : Nat} : (2 * ((t : Nat) : Int) + 2) % 3 = (((2 * t + 2) % 3 : Nat) : Int) := by omega
theorem r_deal {m : Nat} (hm : m ≤ 1000) : F_dealing_plan [.int (m : Nat)] S = some (.tup ((dealP m).map eStp), S) := by
  have l1 : (m : Int) ≤ 1000000 := by omega
  have rk : rngOk (m : Int) := ⟨by omega, l1⟩
  have key : Ok (F_dealing_plan [.int (m : Nat)] S) fun r => r = (.tup ((dealP m).map eStp), S) := by
    refine run_ok ?_
    show Ok (B_dealing_plan [some (.int (m : Nat)), none, none, none, none, none] S) _
    simp [B_dealing_plan, rk, rngD_eq]
    refine for_ex0 (fun t ρ S' => t ≤ m ∧ S' = S ∧ ∃ o2 o3 o4 o5, ρ = [some (.int (m : Nat)), some (.lst ((dealP t).map eStp)), o2, o3, o4, o5]) _ ⟨Nat.zero_le _, rfl, _, _, _, _, rfl⟩ ?_ ?_
    · rintro t x ρ S' hx ⟨ht, rfl, o2, o3, o4, o5, rfl⟩
      obtain ⟨y, e1, rfl⟩ := map_at hx
      obtain ⟨hlt, e2⟩ := List.getElem?_eq_some_iff.mp e1
      rw [List.getElem_range] at e2
      subst e2
      have hlt' : t < m := by simpa using hlt
      refine ⟨by simp, ?_⟩
      have hl := flat_len (f := dealAt) (k := 13) (fun i => by simp [dealAt]) t
      have hl2 : (dealP t).length ≤ 13003 := by
        have e3 : start0.length = 3 := rfl
        unfold dealP; rw [List.length_append]; omega
      have a1 : (dealP t).length + 5 ≤ 1000000 := by omega
      have a2 : (dealP t).length + 5 + 5 ≤ 1000000 := by omega
      have a3 : (dealP t).length + 5 + 5 + 3 ≤ 1000000 := by omega
      have mm : ∀ S', opMul (.int 2) (.int (t : Nat)) S' = some (.int (2 * (t : Nat)), S') := fun S' => mul_ok 20 40 (by decide) (by simp; omega) (by decide)
      refine Ok.eq (a := ([some (.int (m : Nat)), some (.lst ((dealP t).map eStp)), some (.int (t : Nat)), o3, o4, o5], S')) rfl ?_
      refine Ok.eq (a := (.nx, [some (.int (m : Nat)), some (.lst ((dealP (t + 1)).map eStp)), some (.int (t : Nat)), some (.int (2 * t % 3 : Nat)), some (.int ((2 * t + 1) % 3 : Nat)), some (.int ((2 * t + 2) % 3 : Nat))], S')) (by
        simp [a1, a2, a3, mm, -ev_mul]
        simp [dealP, flat_succ, dealAt, eStp]) ?_
      exact ⟨by omega, rfl, _, _, _, _, rfl⟩
    · rintro ρ S' ⟨ht, rfl, o2, o3, o4, o5, rfl⟩
      simp
  obtain ⟨r, e, rfl⟩ := key
  exact e
end W95

namespace W95
open PySem PySem.Spec PyProof.Rows L2 DZ
variable {S : Store}
def addAt (i : Nat) : List Stp := [.put i i, .flush, .need i] ++ if 0 < i then [.free ((i : Int) - 1)] else []
def addP (t : Nat) : List Stp := (List.range t).flatMap addAt
def addD (slots : Nat) : Nat → Option Dk
  | 0 => some (Dk.new slots)
  | t + 1 => (addD slots t).bind fun d => ((Sit.mk d [] []).run [.put t t, .flush]).map (·.d)
def addedOk (slots : Nat) : Bool :=
  (List.range slots).all (fun t => match addD slots (t + 1) with
    | some d => d.okB && (decide (d.pages = (List.range (t + 1)).map fun i : Nat => (i : Int)) && d.look.any fun here => decide ((0 : Int) ∈ here))
    | none => false) &&
  (decide (pf 0 (Sit.new slots) (addP slots) = some none) && decide (pf 0 (Sit.new slots) (addP slots ++ [.gone 0]) = some (some ((addP slots).length + 1, false, 0))))
theorem chk_added : (List.range 12).all (fun t => addedOk (2 + t)) = true := by decide +kernel
theorem cut_last {A B : List D} (h : B.length = 4) : DZ.cutD (A ++ B) (some (-4)) none = B := by
  unfold DZ.cutD
  rw [HT.sIx_none]
  have e : HT.sIx (A ++ B).length 0 (some (-4)) = A.length := by
    unfold HT.sIx
    simp only []
    rw [if_pos (by decide), List.length_append, h]
    omega
  rw [e]
  simp
theorem r_added {b N : Nat} {c : Cell} (hb : S[b]? = some c) (hc : BoxC N c) (hN : N < 2 ^ 50) :
    Ok (F__law_added [.loc b] S) fun r => r.1 = .bl true ∧ ∃ c', BoxC (N + 1) c' ∧ r.2 = S.set b c' := by
  have hlt := lt_of_get hb
  refine drop_box hlt ?_
  obtain ⟨dg, c', e0, hbx, hdg⟩ := r_take (m := 12) hb hc (by omega) (by decide) (by decide)
  have chk := List.all_eq_true.mp chk_added dg (List.mem_range.mpr hdg)
  obtain ⟨slots, hsl⟩ : ∃ s : Nat, s = 2 + dg := ⟨_, rfl⟩
  rw [← hsl] at chk
  have hs0 : (2 : Int) + (dg : Int) = (slots : Int) := by omega
  have hs1 : 0 < slots := by omega
  have hs2 : slots ≤ 13 := by omega
  simp only [addedOk, Bool.and_eq_true, decide_eq_true_eq] at chk
  obtain ⟨k1, k2, k3⟩ := chk
  generalize hS1 : S.set b c' = S1 at *
  have hL1 : S1.length = S.length := by rw [← hS1]; simp
  have hb1 : S1[b]? = some c' := by rw [← hS1]; exact set_self' hb
  have e1 := r_disk (S := S1) hs1 (by omega : slots ≤ 400)
  have e2 := r_plan_fault (S := S1) hs1 (by omega : slots ≤ 400) k2 (fun _ _ _ z => by cases z)
  have l1 : (slots : Int) ≤ 1000000 := by omega
  have rk : rngOk (slots : Int) := ⟨by omega, l1⟩
  have e0' : F__law_take [.loc b, .int 12] S = some (.int (dg : Nat), S1) := e0
  refine run_ok ?_
  show Ok (B__law_added [some (.loc b), none, none, none, none, none] S) _
  simp [B__law_added, e0', hs0, e1, rk, rngD_eq]
  refine for_ex0 (fun t ρ S' => t ≤ slots ∧ ∃ o4 d k', ρ = [some (.loc b), some (.int (slots : Nat)), some (.lst ((addP t).map eStp)), some (.loc S1.length), o4, none] ∧ addD slots t = some d ∧ S1.length ≤ k' ∧ DkAt S' S1.length (S1.length + 1) (S1.length + 2) k' d ∧ Chg [] S1 S') _ ⟨Nat.zero_le _, _, _, _, rfl, rfl, by omega, dk_at, Chg.add⟩ ?_ ?_
  · rintro t x ρ S' hx ⟨ht, o4, d, k', rfl, hd, hk, A, ch⟩
    obtain ⟨y, ey, rfl⟩ := map_at hx
    obtain ⟨hlt', ey2⟩ := List.getElem?_eq_some_iff.mp ey
    rw [List.getElem_range] at ey2
    subst ey2
    have hts : t < slots := by simpa using hlt'
    refine ⟨by simp, ?_⟩
    have kt := List.all_eq_true.mp k1 t (List.mem_range.mpr hts)
    cases hd1 : addD slots (t + 1) with
    | none => rw [hd1] at kt; cases kt
    | some d1 =>
      rw [hd1] at kt
      simp only [Bool.and_eq_true, decide_eq_true_eq] at kt
      obtain ⟨q1, q2, q3⟩ := kt
      have hrun : ∃ st, (Sit.mk d [] []).run [.put t t, .flush] = some st ∧ st.d = d1 := by
        rw [addD, hd, Option.bind_some] at hd1
        obtain ⟨st, h1, h2⟩ := Option.map_eq_some_iff.mp hd1
        exact ⟨st, h1, h2⟩
      obtain ⟨st, hrun, rfl⟩ := hrun
      have htk : (addAt t).take 2 = [.put t t, .flush] := by simp [addAt]
      obtain ⟨⟨v, S2⟩, e3, rfl, k2', hk2, R, c2⟩ := r_run A (addAt t) 2 (P := .lst ((addAt t).map eStp)) (.inr rfl) (by rw [htk]; exact hrun)
      replace R : RunAt S2 S1.length (S1.length + 1) (S1.length + 2) k2' S'.length (S'.length + 1) st := R
      have e4 := r_pages R.xd (Dk.okB.sm q1)
      have e5 := r_shows (p := 0) R.xd (Dk.okB.sm q1)
      rw [q2] at e4
      rw [q3] at e5
      simp only [eR] at e5
      have hl := flat_len (f := addAt) (k := 4) (fun i => by unfold addAt; split <;> simp) t
      have hl2 : (addP t).length ≤ 60 := by unfold addP; omega
      have hlen : ((addP t).map eStp).length = (addP t).length := List.length_map _
      have ex : (addP (t + 1)).map eStp = (addP t).map eStp ++ (addAt t).map eStp := by simp [addP, flat_succ]
      have hle := ch.le
      have c3 : Chg [] S1 S2 := ch.trans c2 fun m hm h => by simp at h; omega
      have eqp : eqD S2 (.lst (((List.range (t + 1)).map fun i : Nat => (i : Int)).map D.int)) (.lst (rngD 0 (t + 1))) = some true := by
        have : ((List.range (t + 1)).map fun i : Nat => (i : Int)).map D.int = rngD 0 (t + 1) := by simp [rngD_eq]
        rw [this, eq_pl]
        · simp
        · show (rngD 0 (t + 1)).all (pl 59) = true; simp [rngD_eq]; intro x hx; rfl
        · show (rngD 0 (t + 1)).all (pl 59) = true; simp [rngD_eq]; intro x hx; rfl
      have lt1 : (t : Int) + 1 ≤ 1000000 := by omega
      have rkt : rngOk ((t : Int) + 1) := ⟨by omega, lt1⟩
      have lt3 : ((t : Int) + 1).toNat = t + 1 := by omega
      refine Ok.eq (a := ([some (.loc b), some (.int (slots : Nat)), some (.lst ((addP t).map eStp)), some (.loc S1.length), some (.int (t : Nat)), none], S')) rfl ?_
      refine Ok.eq (a := (.nx, [some (.loc b), some (.int (slots : Nat)), some (.lst ((addP (t + 1)).map eStp)), some (.loc S1.length), some (.int (t : Nat)), none], S2)) (by
        rw [ex]
        by_cases h0 : 0 < t
        · have e3' : F__law_run [.loc S1.length, .lst [.tup [.str "put", .int (t : Nat), .int (t : Nat)], .tup [.str "flush"], .tup [.str "need", .int (t : Nat)], .tup [.str "free", .int ((t : Nat) - 1)]], .int 2] S' = some (.tup [.loc S'.length, .loc (S'.length + 1)], S2) := by
            have : (addAt t).map eStp = [.tup [.str "put", .int (t : Nat), .int (t : Nat)], .tup [.str "flush"], .tup [.str "need", .int (t : Nat)], .tup [.str "free", .int ((t : Nat) - 1)]] := by simp [addAt, h0, eStp]
            rw [← this]; exact e3
          generalize (addP t).map eStp = L at hlen ⊢
          have b1 : L.length + 3 ≤ 1000000 := by omega
          have b2 : L.length + 3 + 1 ≤ 1000000 := by omega
          have cl : opSl (.lst (L ++ [.tup [.str "put", .int (t : Nat), .int (t : Nat)], .tup [.str "flush"], .tup [.str "need", .int (t : Nat)], .tup [.str "free", .int ((t : Nat) - 1)]])) (some (-4)) none S' = some (.lst [.tup [.str "put", .int (t : Nat), .int (t : Nat)], .tup [.str "flush"], .tup [.str "need", .int (t : Nat)], .tup [.str "free", .int ((t : Nat) - 1)]], S') := by
            show some (D.lst (DZ.cutD _ _ _), S') = _
            rw [cut_last rfl]
          have cl2 : ∃ Q : List D, opSl (.lst (L ++ [.tup [.str "put", .int (t : Nat), .int (t : Nat)], .tup [.str "flush"], .tup [.str "need", .int (t : Nat)], .tup [.str "free", .int ((t : Nat) - 1)]])) (some (-4)) none S' = some (.lst Q, S') ∧ F__law_run [.loc S1.length, .lst Q, .int 2] S' = some (.tup [.loc S'.length, .loc (S'.length + 1)], S2) := ⟨_, cl, e3'⟩
          clear e3' cl
          obtain ⟨Q, cl, e3'⟩ := cl2
          simp [b1, b2, h0, cl, e3', e4, eqp, rkt, lt3, ins_loc R.xd.o, e5, addAt, eStp, -List.map_map]
        · have t0 : t = 0 := by omega
          subst t0
          have e3' : F__law_run [.loc S1.length, .lst [.tup [.str "put", .int 0, .int 0], .tup [.str "flush"], .tup [.str "need", .int 0]], .int 2] S' = some (.tup [.loc S'.length, .loc (S'.length + 1)], S2) := e3
          have eqp' : eqD S2 (.lst [.int 0]) (.lst (rngD 0 1)) = some true := eqp
          have e4' : F__law_pages [.loc S1.length] S2 = some (.lst [.int 0], S2) := e4
          simp [addP, e3', e4', eqp', rk_1, ins_loc R.xd.o, e5, addAt, eStp]) ?_
      exact ⟨by omega, _, _, k2', rfl, rfl, by omega, R.xd, c3⟩
  · rintro ρ S' ⟨ht, o4, d, k', rfl, hd, hk, A, ch⟩
    refine ⟨by simp, ?_⟩
    have sl : ((List.range slots).map fun i : Nat => D.int (i : Nat)).length = slots := by simp
    rw [sl]
    have hl := flat_len (f := addAt) (k := 4) (fun i => by unfold addAt; split <;> simp) slots
    have hl2 : (addP slots).length ≤ 60 := by unfold addP; omega
    have f1 := r_plan_fault (S := S') hs1 (by omega : slots ≤ 400) k2 (fun _ _ _ z => by cases z)
    have f2 := r_plan_fault (S := S') hs1 (by omega : slots ≤ 400) k3 (fun _ _ _ z => by cases z; rfl)
    have f2' : F_plan_fault [.int (slots : Nat), .tup ((addP slots).map eStp ++ [.tup [.str "gone", .int 0]])] S' = some (ePf ((addP slots).length + 1) 0, S') := by
      rw [List.map_append] at f2; exact f2
    have f1' : F_plan_fault [.int (slots : Nat), .tup ((addP slots).map eStp)] S' = some (.non, S') := f1
    have b1 : (addP slots).length + 1 ≤ 1000000 := by omega
    have sm3 := r_same3 (S := S') (n := 1) (a := ((addP slots).length : Int) + 1) (b := 0) (s := "seen")
    have bx : S'[b]? = some c' := ch.get hb1 (by simp)
    refine Ok.eq (a := (.rt (.bl true), [some (.loc b), some (.int (slots : Nat)), some (.lst ((addP slots).map eStp)), some (.loc S1.length), o4, some (ePf ((addP slots).length + 1) 0)], S')) (by
      have io : insOf S' (ePf ((addP slots).length + 1) 0) = some (("PlanFault" : Str), ([("cut", .int (((addP slots).length + 1 : Nat) : Int)), ("torn", .tup []), ("word", .str "seen"), ("page", .int 0)] : List (Str × D))) := rfl
      have in_ : isD (ePf ((addP slots).length + 1) 0) .non = some false := rfl
      simp [f1', f2', b1, io, in_, sm3]) ?_
    refine Ok.eq (a := (.bl true, S')) rfl ⟨⟨by have := ch.le; show S.length ≤ S'.length; omega, fun m hm hx => ?_⟩, c', bx, hbx.bel, _, frz_bl, rfl, c', hbx, rfl⟩
    rw [ch.at_ m (by omega) (by simp), ← hS1]
    exact List.getElem?_set_ne (by rintro rfl; simp at hx)
end W95

namespace W95
open PySem PySem.Spec PyProof.Rows L2 DZ
variable {S : Store}
theorem set_app {S : Store} {b : Nat} {c : Cell} {T : Store} (h : b < S.length) : (S ++ T).set b c = S.set b c ++ T := List.set_append_left _ _ h
theorem set_end {S : Store} {b : Nat} {c x y : Cell} : (S.set b c ++ [x]).set S.length y = S.set b c ++ [y] := by
  rw [List.set_append_right _ _ (by simp)]
  simp
theorem nats_of : ∀ (L : List Int), (∀ x ∈ L, 0 ≤ x) → ∃ h : List Nat, L = h.map (fun i : Nat => (i : Int))
  | [], _ => ⟨[], rfl⟩
  | x :: L, hx => by
    obtain ⟨h, e⟩ := nats_of L fun y hy => hx y (List.mem_cons_of_mem _ hy)
    have := hx x List.mem_cons_self
    exact ⟨x.toNat :: h, by rw [List.map_cons, ← e]; congr 1; omega⟩
theorem sorted_nats {got : List Nat} (hn : got.Nodup) : ∃ h : List Nat, (got.map (fun i : Nat => (i : Int))).mergeSort (fun a b => decide (a ≤ b)) = h.map (fun i : Nat => (i : Int)) ∧ h.Perm got ∧ h.Pairwise (· < ·) := by
  have hp := List.mergeSort_perm (got.map (fun i : Nat => (i : Int))) (fun a b => decide (a ≤ b))
  have hs := msort_sorted (got.map (fun i : Nat => (i : Int)))
  generalize (got.map (fun i : Nat => (i : Int))).mergeSort (fun a b => decide (a ≤ b)) = L at *
  obtain ⟨h, rfl⟩ := nats_of L fun x hx => by
    obtain ⟨y, _, rfl⟩ := List.mem_map.mp (hp.mem_iff.mp hx)
    omega
  have hp' : h.Perm got := by
    have := hp.map Int.toNat
    simpa [List.map_map, Function.comp_def] using this
  refine ⟨h, rfl, hp', ?_⟩
  have h1 : h.Nodup := hp'.nodup_iff.mpr hn
  have h2 : h.Pairwise (· ≤ ·) := by
    have := List.pairwise_map.mp hs
    exact this.imp fun {a b} h => by omega
  exact (List.pairwise_and_iff.mpr ⟨h2, h1⟩).imp fun {a b} h => by omega
theorem r_part {b N : Nat} {c : Cell} {k m : Nat} (hb : S[b]? = some c) (hc : BoxC N c) (hN : N < 2 ^ 50) (hk : k ≤ 1000) (hm : m ≤ k) :
    Ok (F__law_part [.loc b, .lst (rngD 0 k), .int (m : Nat)] S) fun r => ∃ h : List Nat, r.1 = .tup (h.map eN) ∧ h.Pairwise (· < ·) ∧ h.length = m ∧ (∀ x ∈ h, x < k) ∧ ∃ c', BoxC (N + m) c' ∧ r.2 = S.set b c' := by
  have hlt := lt_of_get hb
  refine drop_box hlt ?_
  have l1 : (m : Int) ≤ 1000000 := by omega
  have rk : rngOk (m : Int) := ⟨by omega, l1⟩
  have l2 : m ≤ 1000000 := by omega
  have S0 : S = S.set b c := by
    apply List.ext_getElem?
    intro i
    by_cases hib : i = b
    · subst hib; rw [List.getElem?_set_self hlt]; exact hb
    · rw [List.getElem?_set_ne (Ne.symm hib)]
  refine run_ok ?_
  show Ok (B__law_part [some (.loc b), some (.lst (rngD 0 k)), some (.int (m : Nat)), none, none] S) _
  simp [B__law_part, rk, rngD_eq, l2]
  refine comp_ex0 (fun t acc S' => ∃ got left : List Nat, ∃ c', acc = got.map eN ∧ got.length = t ∧ (got ++ left).Perm (List.range k) ∧ BoxC (N + t) c' ∧ S' = S.set b c' ++ [.lst (left.map eN)]) ⟨[], List.range k, c, rfl, rfl, by simp, hc, by rw [← S0]; rfl⟩ ?_ ?_
  · rintro t x acc S' hx ⟨got, left, c', rfl, hgl, hp, hbx, rfl⟩
    obtain ⟨y, ey, rfl⟩ := map_at hx
    have ht : t < m := by
      have := (List.getElem?_eq_some_iff.mp ey).1
      simpa using this
    have hll : left.length = k - t := by
      have := hp.length_eq
      simp at this
      omega
    refine ⟨by simp, ?_⟩
    have hbS : (S.set b c' ++ [.lst (left.map eN)])[b]? = some c' := by
      rw [List.getElem?_append_left (by simpa using hlt)]; exact set_self' hb
    have hlS : (S.set b c' ++ [Cell.lst (left.map eN)])[S.length]? = some (.lst (left.map eN)) := by
      rw [List.getElem?_append_right (by simp)]; simp
    obtain ⟨dg, c2, e1, hb2, hdg⟩ := r_take (m := left.length) hbS hbx (by omega) (by omega) (by omega)
    rw [set_app (by simpa using hlt), List.set_set] at e1
    have hlS2 : (S.set b c2 ++ [Cell.lst (left.map eN)])[S.length]? = some (.lst (left.map eN)) := by
      rw [List.getElem?_append_right (by simp)]; simp
    have e2 := popAt_ok (i := dg) (d := eN left[dg]) hlS2 (by simp [hdg]) (by omega)
    rw [set_end] at e2
    refine Ok.eq (a := ([some (.loc b), some (.lst (rngD 0 k)), some (.int (m : Nat)), some (.loc S.length), some (.int (0 + (y : Nat)))], S.set b c' ++ [.lst (left.map eN)])) (by simp [rngD_eq]) ?_
    refine Ok.eq (a := (true, S.set b c' ++ [.lst (left.map eN)])) rfl ?_
    simp only [if_true]
    refine Ok.eq (a := (eN left[dg], S.set b c2 ++ [.lst ((left.map eN).eraseIdx dg)])) (by
      simp [rd_loc hlS, lst_loc hlS, e1, e2]) ?_
    refine ⟨got ++ [left[dg]], left.eraseIdx dg, c2, by simp, by simp [hgl], ?_, hb2, by rw [map_eraseIdx]⟩
    refine List.Perm.trans ?_ hp
    rw [List.append_assoc]
    refine List.Perm.append_left _ ?_
    exact (eraseIdx_perm hdg)
  · rintro acc S' ⟨got, left, c', rfl, hgl, hp, hbx, rfl⟩
    rw [List.length_map, List.length_range] at hgl
    refine ⟨by simp, ?_⟩
    have hnd : got.Nodup := (List.nodup_append.mp (hp.nodup_iff.mpr List.nodup_range)).1
    obtain ⟨h, e1, hp2, hs⟩ := sorted_nats hnd
    have e0 : got.map eN = (got.map (fun i : Nat => (i : Int))).map D.int := by simp [eN]
    simp [e0, -List.map_map, intsOf_map', e1]
    have hm' : h.map (fun i : Nat => D.int (i : Int)) = h.map eN := rfl
    refine ⟨(Chg.set (by simp)).push, c', ?_, hbx.bel, .tup (h.map eN), ?_, h, rfl, hs, ?_, ?_, c', ?_, rfl⟩
    · rw [List.getElem?_append_left (by simpa using hlt)]; exact set_self' hb
    · rw [List.map_map]
      refine frz_pl 5 _ ?_
      show (h.map eN).all (pl 4) = true
      rw [List.all_map, List.all_eq_true]
      intro x hx
      rfl
    · rw [hp2.length_eq, hgl]
    · intro x hx
      have : x ∈ got ++ left := List.mem_append_left _ (hp2.mem_iff.mp hx)
      exact List.mem_range.mp (hp.mem_iff.mp this)
    · rw [List.length_map, List.length_range] at hbx
      exact hbx
/-! ### who counts -/
def lookD (q : Nat × Nat) : D := .tup [.int (q.1 : Nat), .int (q.2 : Nat)]
def toldAt (pat : Nat) (k : Nat) (looks : List (Nat × Nat)) (i : Nat) : List Nat := (List.range k).filter fun x => looks.any fun q => decide (q.1 = x) && countsAt pat q.2 i
theorem r_counted {k maps pat : Nat} {looks : List (Nat × Nat)} (hk : k ≤ 1000) (hm : maps ≤ 1000) (hp : pat ≤ 1000) (hl : looks.length ≤ 100000) (ho : ∀ q ∈ looks, q.2 ≤ 1000) :
    F_counted_long [.tup ((List.range maps).map fun _ => .tup (rngD 0 k)), .int (pat : Nat), .int 1, .int 0, .tup (looks.map lookD)] S = some (.tup ((List.range maps).map fun i => .tup ((toldAt pat k looks i).map eN)), S) := by
  refine drop_same ?_
  have l1 : k ≤ 1000000 := by omega
  have l2 : looks.length ≤ 1000000 := by omega
  simp [B_counted_long, runF]
  refine for_ex0 (fun t ρ S' => ∃ o6 o7, ρ = [some (.tup ((List.range maps).map fun _ => .tup (rngD 0 k))), some (.int (pat : Nat)), some (.int 1), some (.int 0), some (.tup (looks.map lookD)), some (.loc S.length), o6, o7, none, none, none] ∧ S' = S ++ [.lst ((List.range t).map fun i => .tup ((toldAt pat k looks i).map eN))]) _ ⟨_, _, rfl, rfl⟩ ?_ ?_
  · rintro t x ρ S' hx ⟨o6, o7, rfl, rfl⟩
    obtain ⟨y, ey, rfl⟩ := enum_at' hx
    have ht : t < maps := by
      have := (List.getElem?_eq_some_iff.mp ey).1
      simpa using this
    refine ⟨by simp, ?_⟩
    have hS : ∀ l, (S ++ [Cell.lst l])[S.length]? = some (.lst l) := fun l => by simp
    have c1 : ∀ (o0 o5 o7 : Option D) (x : Nat) (S' : Store), compGo (Src.ok ⟨looks.map lookD, []⟩) (gTupF 2 (gConsF (gVar 9) (gConsF (gVar 10) gNilF))) tTrue (eAnd (eBin opEq (eVar 9) (eVar 8)) (eDef 5 F_counts_at (aCons (eVar 1) (aCons (eVar 2) (aCons (eVar 3) (aCons (eVar 10) (aCons (eVar 6) aNil))))))) [o0, some (.int (pat : Nat)), some (.int 1), some (.int 0), some (.tup (looks.map lookD)), o5, some (.int (t : Nat)), o7, some (.int (x : Nat)), none, none] (looks.map lookD) S' = some (looks.map fun q => .bl (decide (q.1 = x) && countsAt pat q.2 t), S') := fun o0 o5 o7 x S' => by
      rw [comp_mapT lookD (fun q => .bl (decide (q.1 = x) && countsAt pat q.2 t)) (by simp) looks fun q hq => ⟨_, by simp [lookD]; rfl, by
        have h1 := ho q hq
        have h2 := r_counts_at (S := S') (d := pat) (own := (q.2 : Nat)) (i := (t : Nat)) (by omega) (by omega)
        by_cases hqx : q.1 = x
        · simp [hqx, h2]
        · have : ¬ (q.1 : Int) = (x : Int) := by omega
          simp [hqx, this]⟩]
    have c2 : ∀ (o0 o5 o7 : Option D) (S' : Store), compGo (Src.ok ⟨rngD 0 k, []⟩) (gVar 8) (tOf (eCall bAny (aCons (eFz (aComp (iSeq (eVar 4)) (gTupF 2 (gConsF (gVar 9) (gConsF (gVar 10) gNilF))) tTrue (eAnd (eBin opEq (eVar 9) (eVar 8)) (eDef 5 F_counts_at (aCons (eVar 1) (aCons (eVar 2) (aCons (eVar 3) (aCons (eVar 10) (aCons (eVar 6) aNil))))))) [9, 10])) aNil))) (eVar 8) [o0, some (.int (pat : Nat)), some (.int 1), some (.int 0), some (.tup (looks.map lookD)), o5, some (.int (t : Nat)), o7, none, none, none] (rngD 0 k) S' = some ((toldAt pat k looks t).map eN, S') := fun o0 o5 o7 S' => by
      rw [rngD_eq, comp_map (fun i : Nat => D.int (0 + (i : Nat))) (fun x => looks.any fun q => decide (q.1 = x) && countsAt pat q.2 t) eN (by simp) (List.range k) fun x hx => ⟨_, by simp; rfl, by
        have := c1 o0 o5 o7 x S'
        have b := blsOf_map' (fun q : Nat × Nat => decide (q.1 = x) && countsAt pat q.2 t) looks
        simp [l2, this, b, List.any_map, Function.comp_def], fun _ => by simp [eN]⟩]
      rfl
    have ml : (List.range t).length < 1000000 := by simp; omega
    refine Ok.eq (a := ([some (.tup ((List.range maps).map fun _ => .tup (rngD 0 k))), some (.int (pat : Nat)), some (.int 1), some (.int 0), some (.tup (looks.map lookD)), some (.loc S.length), some (.int (t : Nat)), some (.tup (rngD 0 k)), none, none, none], S ++ [.lst ((List.range t).map fun i => .tup ((toldAt pat k looks i).map eN))])) (by simp) ?_
    have lr : (rngD 0 k).length ≤ 1000000 := by rw [rngD_eq]; simp; omega
    have ap := append_ok (d := .tup ((toldAt pat k looks t).map eN)) (hS ((List.range t).map fun i => .tup ((toldAt pat k looks i).map eN))) (by simp; omega)
    rw [set_last] at ap
    refine Ok.eq (a := (.nx, [some (.tup ((List.range maps).map fun _ => .tup (rngD 0 k))), some (.int (pat : Nat)), some (.int 1), some (.int 0), some (.tup (looks.map lookD)), some (.loc S.length), some (.int (t : Nat)), some (.tup (rngD 0 k)), none, none, none], S ++ [.lst ((List.range (t + 1)).map fun i => .tup ((toldAt pat k looks i).map eN))])) (by
      simp [lst_loc (hS _), lr, c2, ap, List.range_succ]) ?_
    exact ⟨_, _, rfl, rfl⟩
  · rintro ρ S' ⟨o6, o7, rfl, rfl⟩
    refine ⟨by simp, ?_⟩
    have hS : ∀ l, (S ++ [Cell.lst l])[S.length]? = some (.lst l) := fun l => by simp
    have hle : (enumD 0 ((List.range maps).map fun _ => D.tup (rngD 0 k))).length = maps := by simp [enumD_length]
    rw [hle]
    simp [rd_loc (hS _), Chg.add]
    refine frz_pl 5 _ ?_
    show ((List.range maps).map fun i => D.tup ((toldAt pat k looks i).map eN)).all (pl 4) = true
    simp only [List.all_map, List.all_eq_true]
    intro x hx
    show ((toldAt pat k looks x).map eN).all (pl 3) = true
    simp only [List.all_map, List.all_eq_true]
    intro y hy
    rfl
end W95

namespace W95
open PySem PySem.Spec PyProof.Rows L2 DZ
variable {S : Store}
def grp (seen : List (Nat × Nat)) (o : Nat) : List Nat := (seen.filter fun q => decide (q.2 = o)).map (·.1)
def eKv (q : Nat × Nat) : Key × D := (.inl (q.1 : Int), .loc q.2)
structure SpAt (S : Store) (L : Nat) (seen ks : List (Nat × Nat)) : Prop where
  d : S[L]? = some (.dct (ks.map eKv))
  nd1 : (ks.map (·.1)).Nodup
  nd2 : (ks.map (·.2)).Nodup
  gt : ∀ q ∈ ks, L < q.2
  at_ : ∀ q ∈ ks, S[q.2]? = some (.lst ((grp seen q.1).map eN))
  all : ∀ q ∈ seen, q.2 ∈ ks.map (·.1)
theorem getKD_ks : ∀ {ks : List (Nat × Nat)} {o n : Nat}, (ks.map (·.1)).Nodup → (o, n) ∈ ks → getKD (ks.map eKv) (.inl (o : Int)) = some (.loc n)
  | [], _, _, _, h => by simp at h
  | (a, b) :: ks, o, n, nd, h => by
    rw [List.map_cons, List.nodup_cons] at nd
    unfold getKD
    rw [List.map_cons, List.find?_cons]
    by_cases hao : a = o
    · subst hao
      rcases List.mem_cons.mp h with e | e
      · cases e; simp [eKv]
      · exact absurd (List.mem_map.mpr ⟨_, e, rfl⟩) nd.1
    · have h1 : ¬ (eKv (a, b)).1 = .inl (o : Int) := by simp [eKv]; omega
      rw [decide_eq_false h1]
      rcases List.mem_cons.mp h with e | e
      · cases e; exact absurd rfl hao
      · exact getKD_ks nd.2 e
theorem getKD_no {ks : List (Nat × Nat)} {o : Nat} (h : o ∉ ks.map (·.1)) : getKD (ks.map eKv) (.inl (o : Int)) = none := by
  rw [getKD_none]
  intro q hq e
  obtain ⟨z, hz, rfl⟩ := List.mem_map.mp hq
  simp [eKv] at e
  exact h (List.mem_map.mpr ⟨z, hz, by omega⟩)
theorem grp_append {seen : List (Nat × Nat)} {q : Nat × Nat} {o : Nat} : grp (seen ++ [q]) o = grp seen o ++ if q.2 = o then [q.1] else [] := by
  unfold grp
  by_cases h : q.2 = o <;> simp [h]
theorem r_is_spread {looks : List (Nat × Nat)} {l : Nat} (hn : looks.Nodup) (hl : ∀ o, (grp looks o).length ≤ l) (hlen : looks.length ≤ 100000) :
    F_is_spread [.tup (looks.map lookD), .int (l : Nat)] S = some (.bl true, S) := by
  refine drop_same ?_
  simp [B_is_spread, runF]
  refine for_ex0 (fun t ρ S' => ∃ o3 o4 ks, ks.length ≤ t ∧ ρ = [some (.tup (looks.map lookD)), some (.int (l : Nat)), some (.loc S.length), o3, o4, none] ∧ SpAt S' S.length (looks.take t) ks ∧ Chg [] S S') _ ⟨_, _, [], by simp, rfl, ⟨by simp, by simp, by simp, by simp, by simp, by simp⟩, Chg.add⟩ ?_ ?_
  · rintro t q ρ S' hx ⟨o3, o4, ks, hkt, rfl, A, ch⟩
    obtain ⟨q, e1, rfl⟩ := map_at hx
    refine ⟨by simp, ?_⟩
    have hL := lt_of_get A.d
    have htl : t < looks.length := (List.getElem?_eq_some_iff.mp e1).1
    have hkl : ks.length < 1000000 := by omega
    refine Ok.eq (a := ([some (.tup (looks.map lookD)), some (.int (l : Nat)), some (.loc S.length), some (.int (q.1 : Nat)), some (.int (q.2 : Nat)), none], S')) (by simp [lookD]) ?_
    generalize hρ : ([some (.tup (looks.map lookD)), some (.int (l : Nat)), some (.loc S.length), some (.int (q.1 : Nat)), some (.int (q.2 : Nat)), none] : DZ.Env) = ρ
    have v2 : ∀ S', eVar 2 ρ S' = some (.loc S.length, S') := fun S' => by rw [← hρ]; simp
    have v3 : ∀ S', eVar 3 ρ S' = some (.int (q.1 : Nat), S') := fun S' => by rw [← hρ]; simp
    have v4 : ∀ S', eVar 4 ρ S' = some (.int (q.2 : Nat), S') := fun S' => by rw [← hρ]; simp
    have nx : eCe (aMax aNil) ρ S' = some (.loc S'.length, S' ++ [.lst []]) := by simp
    have hd1 : (S' ++ [Cell.lst []])[S.length]? = some (.dct (ks.map eKv)) := by rw [List.getElem?_append_left hL]; exact A.d
    -- the dict has a list for this one
    have st : ∃ S1 ks1 n, eDSetd (eVar 2) (eVar 4) (eCe (aMax aNil)) ρ S' = some (.loc n, S1) ∧ SpAt S1 S.length (looks.take t) ks1 ∧ Chg [] S S1 ∧ (q.2, n) ∈ ks1 ∧ ks1.length ≤ t + 1 := by
      by_cases ho : q.2 ∈ ks.map (·.1)
      · obtain ⟨⟨o, n⟩, hq, e⟩ := List.mem_map.mp ho
        have e : o = q.2 := e
        subst e
        refine ⟨S' ++ [Cell.lst []], ks, n, dsetd_old (v2 _) (v4 _) nx key_int A.d hd1 (by simpa using hkl) (getKD_ks A.nd1 hq), ⟨hd1, A.nd1, A.nd2, A.gt, fun z hz => ?_, A.all⟩, ch.push, hq, by omega⟩
        have := A.at_ z hz
        rw [List.getElem?_append_left (lt_of_get this)]; exact this
      · have hnl : ∀ z ∈ ks, z.2 < S'.length := fun z hz => lt_of_get (A.at_ z hz)
        refine ⟨(S' ++ [Cell.lst []]).set S.length (.dct (putKD (ks.map eKv) (.inl (q.2 : Int)) (.loc S'.length))), ks ++ [(q.2, S'.length)], S'.length, dsetd_new (v2 _) (v4 _) nx key_int A.d hd1 (by simpa using hkl) (getKD_no ho), ⟨?_, ?_, ?_, ?_, ?_, ?_⟩, ch.push.wr (.inr (Nat.le_refl _)), by simp, by simp; omega⟩
        · rw [putKD_new (getKD_no ho), set_self' hd1]
          simp [eKv]
        · rw [List.map_append, List.nodup_append]
          refine ⟨A.nd1, by simp, ?_⟩
          intro a ha b hb
          simp at hb; subst hb
          rintro rfl; exact ho ha
        · rw [List.map_append, List.nodup_append]
          refine ⟨A.nd2, by simp, ?_⟩
          intro a ha b hb
          simp at hb; subst hb
          obtain ⟨z, hz, rfl⟩ := List.mem_map.mp ha
          have := hnl z hz
          omega
        · intro z hz
          rcases List.mem_append.mp hz with hz | hz
          · exact A.gt z hz
          · simp at hz; subst hz; exact hL
        · intro z hz
          rcases List.mem_append.mp hz with hz | hz
          · have h1 := A.gt z hz
            have h2 := hnl z hz
            rw [List.getElem?_set_ne (by omega), List.getElem?_append_left h2]
            exact A.at_ z hz
          · simp at hz; subst hz
            rw [List.getElem?_set_ne (by show S.length ≠ S'.length; omega), List.getElem?_append_right (Nat.le_refl _)]
            have : grp (looks.take t) q.2 = [] := by
              unfold grp
              rw [List.map_eq_nil_iff, List.filter_eq_nil_iff]
              intro y hy hyo
              simp at hyo
              exact ho (hyo ▸ A.all y hy)
            simp [this]
        · intro z hz
          rw [List.map_append]
          exact List.mem_append_left _ (A.all z hz)
    obtain ⟨S1, ks1, n, e2, A1, ch1, hq, hk1⟩ := st
    have gk := getKD_ks A1.nd1 hq
    have an := A1.at_ _ hq
    have gl : (grp (looks.take t) q.2).length < 1000000 := by
      have : (grp (looks.take t) q.2).length ≤ (looks.take t).length := by
        unfold grp; rw [List.length_map]; exact List.length_filter_le _ _
      rw [List.length_take] at this; omega
    have notin : q.1 ∉ grp (looks.take t) q.2 := fun h => by
      obtain ⟨z, hz, e⟩ := List.mem_map.mp h
      obtain ⟨hz1, hz2⟩ := List.mem_filter.mp hz
      simp at hz2
      have : z = q := Prod.ext e hz2
      subst this
      obtain ⟨i, hi, e3⟩ := List.getElem_of_mem hz1
      rw [List.getElem_take] at e3
      have hit : i < t := by rw [List.length_take] at hi; omega
      obtain ⟨hlt, e4⟩ := List.getElem?_eq_some_iff.mp e1
      have := (List.nodup_iff_pairwise_ne.mp hn)
      have := List.pairwise_iff_getElem.mp this i t (by omega) hlt hit
      exact this (e3.trans e4.symm)
    have ni : inD S1 (.int (q.1 : Nat)) (.loc n) = some false := by
      have e0 : (grp (looks.take t) q.2).map eN = ((grp (looks.take t) q.2).map fun i : Nat => (i : Int)).map D.int := by simp [eN]
      rw [e0] at an
      rw [in_intsC an]
      congr 1
      rw [decide_eq_false_iff_not]
      intro h
      obtain ⟨z, hz, e⟩ := List.mem_map.mp h
      exact notin (by rwa [show z = q.1 by omega] at hz)
    have ap := append_ok (d := .int (q.1 : Nat)) an (by simpa using gl)
    refine Ok.eq (a := (.nx, ρ, S1.set n (.lst ((grp (looks.take t) q.2).map eN ++ [.int (q.1 : Nat)])))) (by
      refine (seq_nx (S1 := S1) (ρ1 := ρ) (by simp [e2])).trans ?_
      simp [v2, v3, v4, dct_loc A1.d, gk, ni, lst_loc an, ap]) ?_
    subst hρ
    refine ⟨_, _, ks1, hk1, rfl, ⟨?_, A1.nd1, A1.nd2, A1.gt, ?_, ?_⟩, ch1.wr (.inr (by have := A1.gt _ hq; simp at this; omega))⟩
    · show (S1.set n _)[S.length]? = _
      rw [List.getElem?_set_ne (by have := A1.gt _ hq; simp at this; omega)]
      exact A1.d
    · intro z hz
      have ht : looks.take (t + 1) = looks.take t ++ [q] := by rw [List.take_succ, e1]; rfl
      show (S1.set n _)[z.2]? = _
      by_cases hzn : z.2 = n
      · have : z = (q.2, n) := nodup_inj A1.nd2 hz hq hzn
        subst this
        rw [List.getElem?_set_self (lt_of_get an), ht, grp_append, if_pos rfl]
        simp [eN]
      · rw [List.getElem?_set_ne (Ne.symm hzn), A1.at_ z hz, ht, grp_append, if_neg, List.append_nil]
        intro e5
        have := nodup_inj A1.nd1 hz hq e5.symm
        rw [this] at hzn
        exact hzn rfl
    · intro z hz
      rw [List.take_succ, e1] at hz
      rcases List.mem_append.mp hz with hz | hz
      · exact A1.all z hz
      · simp at hz; subst hz
        exact List.mem_map.mpr ⟨_, hq, rfl⟩
  · rintro ρ S' ⟨o3, o4, ks, hkt, rfl, A, ch⟩
    refine ⟨by simp, ?_⟩
    rw [List.length_map, List.take_length] at A
    rw [List.length_map] at hkt
    have hL := lt_of_get A.d
    have k6 : ks.length ≤ 1000000 := by omega
    have hlk : (S'.set S.length (.lck (ks.map eKv)))[S.length]? = some (.lck (ks.map eKv)) := List.getElem?_set_self hL
    have hc : compGo (Src.ok ⟨(ks.map eKv).map (·.2), [(S.length, .lck (ks.map eKv))]⟩) (gVar 5) tTrue (eBin opLe (eCall bLen (aCons (eVar 5) aNil)) (eVar 1)) [some (.tup (looks.map lookD)), some (.int (l : Nat)), some (.loc S.length), o3, o4, none] ((ks.map eKv).map (·.2)) (S'.set S.length (.lck (ks.map eKv))) = some (ks.map fun _ => .bl true, S'.set S.length (.lck (ks.map eKv))) := by
      have e : (ks.map eKv).map (·.2) = ks.map fun q => D.loc q.2 := by simp [eKv]
      rw [e, comp_mapT (fun q : Nat × Nat => D.loc q.2) (fun _ => .bl true) (by simpa using hlk) ks fun q hq => ⟨_, by simp; rfl, by
        have h1 := A.at_ q hq
        have h2 := A.gt q hq
        have h3 := hl q.1
        have h4 : (S'.set S.length (.lck (ks.map eKv)))[q.2]? = some (.lst ((grp looks q.1).map eN)) := by rw [List.getElem?_set_ne (by omega)]; exact h1
        simp [rd_loc h4, h3]⟩]
    have b1 := blsOf_map' (fun _ : Nat × Nat => true) ks
    simp only [List.map_map] at hc
    simp [dct_loc A.d, lck_loc hlk, hL, k6, hc, b1, frz_bl]
    exact (ch.wr (.inr (Nat.le_refl _)))
end W95

namespace W95
open PySem PySem.Spec PyProof.Rows L2 DZ
variable {S : Store}
def endsOf (P : List Stp) : List Nat := ((List.range P.length).filter fun i => decide (P[i]? = some .flush)).map (· + 1)
def idxFor (pat own : Nat) : Nat := if pat = 2 ∨ own = 0 then own else 2 * own - 1
def crewOk (P : List Stp) (pat maps : Nat) : Bool := decide (P.length ≤ 200) && (List.range (maps + 1)).all fun own =>
  match (endsOf P)[idxFor pat own]? with
  | some e => decide (1 ≤ e) && (List.range 2).all fun dg => match (Sit.new 2).run (P.take (e - dg)) with
    | some st => st.d.okB && (decide (st.d.pages.length ≤ 1000) && (List.range (maps + 1)).all fun i => !decide ((i : Int) ∈ st.d.pages) || countsAt pat own i)
    | none => false
  | none => false
theorem chk_crew1 : (List.range 5).all (fun m => crewOk (promptP (2 + m)) 1 (2 + m)) = true := by decide +kernel
theorem chk_crew2 : (List.range 5).all (fun m => crewOk (lagP (2 + m)) 2 (2 + m)) = true := by decide +kernel
theorem told_k {pat k : Nat} {looks : List (Nat × Nat)} {i : Nat} : (toldAt pat k looks i).length ≤ k := by
  have := List.length_filter_le (fun x => looks.any fun q => decide (q.1 = x) && countsAt pat q.2 i) (List.range k)
  rw [List.length_range] at this
  exact this
theorem told_l {pat k l : Nat} {looks : List (Nat × Nat)} {i : Nat} (hl : ∀ o, (grp looks o).length ≤ l) : (toldAt pat k looks i).length ≤ l * (pat + 1) := by
  have h1 : (toldAt pat k looks i).Nodup := List.nodup_range.sublist List.filter_sublist
  have h2 : toldAt pat k looks i ⊆ (List.range (pat + 1)).flatMap fun j => grp looks (i + j) := by
    intro x hx
    obtain ⟨_, hx⟩ := List.mem_filter.mp hx
    obtain ⟨q, hq, hx⟩ := List.any_eq_true.mp hx
    simp only [Bool.and_eq_true, decide_eq_true_eq, countsAt, Bool.or_eq_true] at hx
    obtain ⟨rfl, hx⟩ := hx
    refine List.mem_flatMap.mpr ⟨q.2 - i, List.mem_range.mpr (by omega), List.mem_map.mpr ⟨q, List.mem_filter.mpr ⟨hq, ?_⟩, rfl⟩⟩
    simp only [decide_eq_true_eq]
    omega
  have h3 := List.Nodup.length_le_of_subset h1 h2
  have h4 := flat_len (f := fun j => grp looks (i + j)) (k := l) (fun j => hl (i + j)) (pat + 1)
  omega
theorem eStpFlush {P : List Stp} {i : Nat} (h : i < P.length) : (atI (P.map eStp) (i : Int)).isSome = true := by
  rw [DZ.atI_nat (d := eStp P[i]) (by simp [h])]; rfl
theorem mem_sortedSet {x : Int} {ns : List Int} (h : x ∈ sortedSet ns) : x ∈ ns :=
  (List.mergeSort_perm _ _).mem_iff.mp (List.mem_eraseDups.mp h)
def shD (s : Nat × List Int) : D := .tup [.int (s.1 : Nat), .lst (s.2.map .int)]
/-- what the loops keep -/
structure CrewI (k l pat maps t : Nat) (looks : List (Nat × Nat)) (shown : List (Nat × List Int)) : Prop where
  a : ∀ q ∈ looks, q.1 < k ∧ q.2 ≤ maps
  nd : looks.Nodup
  g : ∀ o, (grp looks o).length ≤ l
  s : ∀ s ∈ shown, s.1 < k ∧ s.2.length ≤ 1000 ∧ ∃ own, (s.1, own) ∈ looks ∧ ∀ i, i ≤ maps → (i : Int) ∈ s.2 → countsAt pat own i = true
  len : looks.length ≤ 3 * t
  len2 : shown.length = looks.length
theorem CrewI.next {k l pat maps t : Nat} {looks : List (Nat × Nat)} {shown extra : List (Nat × List Int)} {h : List Nat} (A : CrewI k l pat maps t looks shown) (ho : ∀ q ∈ looks, q.2 < t) (ht : t ≤ maps)
    (h1 : h.Pairwise (· < ·)) (h2 : ∀ x ∈ h, x < k) (h3 : h.length ≤ l) (h4 : h.length ≤ 3) (e1 : extra.length = h.length) (e2 : ∀ s ∈ extra, s.1 ∈ h ∧ s.2.length ≤ 1000 ∧ ∀ i, i ≤ maps → (i : Int) ∈ s.2 → countsAt pat t i = true) :
    CrewI k l pat maps (t + 1) (looks ++ h.map fun x => (x, t)) (shown ++ extra) ∧ ∀ q ∈ looks ++ h.map fun x => (x, t), q.2 < t + 1 := by
  refine ⟨⟨?_, ?_, ?_, ?_, ?_, ?_⟩, ?_⟩
  · intro q hq
    rcases List.mem_append.mp hq with hq | hq
    · exact A.a q hq
    · obtain ⟨x, hx, rfl⟩ := List.mem_map.mp hq
      exact ⟨h2 x hx, ht⟩
  · rw [List.nodup_append]
    refine ⟨A.nd, ?_, ?_⟩
    · have : h.Nodup := h1.imp fun {a b} h => by omega
      exact List.pairwise_map.mpr (this.imp fun {a b} hab e => hab (by injection e))
    · intro a ha b hb
      obtain ⟨x, hx, rfl⟩ := List.mem_map.mp hb
      rintro rfl
      have := ho _ ha
      simp at this
  · intro o
    unfold grp
    rw [List.filter_append, List.map_append, List.length_append]
    by_cases hot : o = t
    · subst hot
      have z : looks.filter (fun q => decide (q.2 = o)) = [] := by
        rw [List.filter_eq_nil_iff]
        intro q hq e
        simp at e
        have := ho q hq
        omega
      rw [z]
      have := List.length_filter_le (fun q : Nat × Nat => decide (q.2 = o)) (h.map fun x => (x, o))
      simp only [List.length_map, List.map_nil, List.length_nil] at this ⊢
      omega
    · have z : (h.map fun x => (x, t)).filter (fun q => decide (q.2 = o)) = [] := by
        rw [List.filter_eq_nil_iff]
        intro q hq e
        obtain ⟨x, hx, rfl⟩ := List.mem_map.mp hq
        simp at e
        omega
      rw [z]
      exact A.g o
  · intro s hs
    rcases List.mem_append.mp hs with hs | hs
    · obtain ⟨a1, a2, own, a3, a4⟩ := A.s s hs
      exact ⟨a1, a2, own, List.mem_append_left _ a3, a4⟩
    · obtain ⟨b1, b2, b3⟩ := e2 s hs
      exact ⟨h2 _ b1, b2, t, List.mem_append_right _ (List.mem_map.mpr ⟨_, b1, rfl⟩), b3⟩
  · have := A.len
    rw [List.length_append, List.length_map]; omega
  · have := A.len2
    rw [List.length_append, List.length_append, List.length_map, A.len2, e1]
  · intro q hq
    rcases List.mem_append.mp hq with hq | hq
    · have := ho q hq; omega
    · obtain ⟨x, hx, rfl⟩ := List.mem_map.mp hq
      simp
theorem ends_comp {P : List Stp} (hl : P.length ≤ 1000) {o0 o1 o2 o3 o5 o6 : Option D} : ∀ S, eFz (aComp (iRg2 (aCons (eC (.int 1)) (aCons (eBin opAdd (eCall bLen (aCons (eVar 4) aNil)) (eC (.int 1))) aNil))) (gVar 13) (tOf (eBin opEq (eBin opIx (eVar 4) (eBin opSub (eVar 13) (eC (.int 1)))) (eTup (aCons (eC (.str "flush")) aNil)))) (eVar 13) [13]) [o0, o1, o2, o3, some (.tup (P.map eStp)), o5, o6, none, none, none, none, none, none, none, none, none, none, none, none, none] S = some (.lst ((endsOf P).map eN), S) := fun S => by
  have l1 : (P.length : Int) + 1 ≤ 1000000 := by omega
  have rk : rngOk ((P.length : Int) + 1) := ⟨by omega, l1⟩
  have l2 : P.length ≤ 1000000 := by omega
  have l3 : ((P.length : Int) + 1 - 1).toNat = P.length := by omega
  simp [rk, rk_1, rngD_eq, l3, l2]
  rw [comp_map (fun i : Nat => D.int (1 + (i : Nat))) (fun i => decide (P[i]? = some .flush)) (fun i => eN (i + 1)) (by simp) (List.range P.length) fun i hi => ⟨_, by simp; rfl, by
    have hi' := List.mem_range.mp hi
    have e1 : atI (P.map eStp) ((1 : Int) + (i : Nat) - 1) = some (eStp P[i]) := by
      rw [show (1 : Int) + (i : Nat) - 1 = ((i : Nat) : Int) by omega]
      exact DZ.atI_nat (by simp [hi'])
    simp [e1, eq_flush, hi'], fun _ => by simp [eN]; omega⟩]
  simp [endsOf, eN, Function.comp_def]
end W95

namespace W95
open PySem PySem.Spec PyProof.Rows L2 DZ
variable {S : Store}
theorem crew_at {P : List Stp} {pat maps own : Nat} (h : crewOk P pat maps = true) (ho : own ≤ maps) : ∃ e, (endsOf P)[idxFor pat own]? = some e ∧ 1 ≤ e ∧ ∀ dg, dg < 2 → ∃ st, (Sit.new 2).run (P.take (e - dg)) = some st ∧ st.d.okB = true ∧ st.d.pages.length ≤ 1000 ∧ ∀ i, i ≤ maps → (i : Int) ∈ st.d.pages → countsAt pat own i = true := by
  simp only [crewOk, Bool.and_eq_true, decide_eq_true_eq, List.all_eq_true, List.mem_range] at h
  have h1 := h.2 own (by omega)
  split at h1
  · rename_i e he
    refine ⟨e, he, ?_⟩
    simp only [Bool.and_eq_true, decide_eq_true_eq, List.all_eq_true, List.mem_range] at h1
    refine ⟨h1.1, fun dg hdg => ?_⟩
    have h2 := h1.2 dg hdg
    split at h2
    · rename_i st hst
      simp only [Bool.and_eq_true, decide_eq_true_eq, List.all_eq_true, List.mem_range, Bool.or_eq_true, Bool.not_eq_true', decide_eq_false_iff_not] at h2
      exact ⟨st, hst, h2.1, h2.2.1, fun i hi hm => (h2.2.2 i (by omega)).resolve_left fun q => q hm⟩
    · cases h2
  · cases h1
/-- the plan picked -/
theorem crew_pick {b N maps : Nat} {c : Cell} (hb : S[b]? = some c) (hc : BoxC N c) (hN : N < 2 ^ 50) (h2 : 2 ≤ maps) (h6 : maps ≤ 6) :
    ∃ P pat c', crewOk P pat maps = true ∧ (pat = 1 ∨ pat = 2) ∧ BoxC (N + 1) c' ∧ F__law_pick [.loc b, .lst [.tup [.tup ((promptP maps).map eStp), .int 2, .int 1], .tup [.tup ((lagP maps).map eStp), .int 2, .int 2]]] S = some (.tup [.tup (P.map eStp), .int 2, .int (pat : Nat)], S.set b c') := by
  obtain ⟨dg, c', e, hc', hdg⟩ := r_take (m := 2) hb hc (by omega) (by decide) (by decide)
  have e' : F__law_take [.loc b, .int 2] S = some (.int (dg : Nat), S.set b c') := e
  have k1 := List.all_eq_true.mp chk_crew1 (maps - 2) (List.mem_range.mpr (by omega))
  have k2 := List.all_eq_true.mp chk_crew2 (maps - 2) (List.mem_range.mpr (by omega))
  rw [show 2 + (maps - 2) = maps by omega] at k1 k2
  have hd : dg = 0 ∨ dg = 1 := by omega
  rcases hd with rfl | rfl
  · refine ⟨_, 1, c', k1, .inl rfl, hc', ?_⟩
    have a : ∀ x y : D, atI [x, y] 0 = some x := fun _ _ => rfl
    simp at e'
    simp [F__law_pick, B__law_pick, runF, e', a]
  · refine ⟨_, 2, c', k2, .inr rfl, hc', ?_⟩
    have a : ∀ x y : D, atI [x, y] 1 = some y := fun _ _ => rfl
    simp at e'
    simp [F__law_pick, B__law_pick, runF, e', a]
theorem set_id {b : Nat} {c : Cell} (hb : S[b]? = some c) : S.set b c = S := by
  apply List.ext_getElem?
  intro i
  by_cases hib : i = b
  · subst hib; rw [List.getElem?_set_self (lt_of_get hb)]; exact hb.symm
  · rw [List.getElem?_set_ne (Ne.symm hib)]
theorem r_crews {b N : Nat} {c : Cell} (hb : S[b]? = some c) (hc : BoxC N c) (hN : N < 2 ^ 40) :
    Ok (F__law_crews [.loc b] S) fun r => r.1 = .bl true ∧ ∃ c', BoxC (N + 100) c' ∧ r.2 = S.set b c' := by
  have hlt := lt_of_get hb
  refine drop_box hlt ?_
  obtain ⟨d1, c1, e1, hc1, hd1⟩ := r_take (m := 12) hb hc (by omega) (by decide) (by decide)
  obtain ⟨d2, c2, e2, hc2, hd2⟩ := r_take (m := 4) (set_self' (e := c1) hb) hc1 (by omega) (by decide) (by decide)
  rw [List.set_set] at e2
  obtain ⟨d3, c3, e3, hc3, hd3⟩ := r_take (m := 5) (set_self' (e := c2) hb) hc2 (by omega) (by decide) (by decide)
  rw [List.set_set] at e3
  obtain ⟨k, hk⟩ : ∃ k : Nat, k = 1 + d1 := ⟨_, rfl⟩
  obtain ⟨maps, hmaps⟩ : ∃ m : Nat, m = 2 + d3 := ⟨_, rfl⟩
  obtain ⟨P, pat, c4, hP, hpat, hc4, e4⟩ := crew_pick (maps := maps) (set_self' (e := c3) hb) hc3 (by omega) (by omega) (by omega)
  rw [List.set_set] at e4
  generalize hS1 : S.set b c4 = S1 at *
  have hb1 : S1[b]? = some c4 := by rw [← hS1]; exact set_self' hb
  have hL1 : S1.length = S.length := by rw [← hS1]; simp
  have hPl : P.length ≤ 200 := by
    simp only [crewOk, Bool.and_eq_true, decide_eq_true_eq] at hP
    exact hP.1
  have k1 : (1 : Int) + (d1 : Int) = (k : Nat) := by omega
  have m1 : (2 : Int) + (d3 : Int) = (maps : Nat) := by omega
  have e1' : F__law_take [.loc b, .int 12] S = some (.int (d1 : Nat), S.set b c1) := e1
  have e2' : F__law_take [.loc b, .int 4] (S.set b c1) = some (.int (d2 : Nat), S.set b c2) := e2
  have e3' : F__law_take [.loc b, .int 5] (S.set b c2) = some (.int (d3 : Nat), S.set b c3) := e3
  have pp := r_prompt (S := S.set b c3) (m := maps) (by omega)
  have pl := r_lag (S := S.set b c3) (m := maps) (by omega)
  have rkm : rngOk ((maps : Int) + 1) := rk_succ (by omega)
  have rkk : rngOk (k : Int) := rk_nat (by omega)
  refine run_ok ?_
  show Ok (B__law_crews [some (.loc b), none, none, none, none, none, none, none, none, none, none, none, none, none, none, none, none, none, none, none] S) _
  unfold B__law_crews
  rw [seq_nx (ρ1 := [some (.loc b), some (.int (k : Nat)), some (.int (d2 : Nat)), some (.int (maps : Nat)), none, none, none, none, none, none, none, none, none, none, none, none, none, none, none, none]) (S1 := S.set b c3) (by
    simp [e1', e2', e3', k1, m1])]
  rw [seq_nx (ρ1 := [some (.loc b), some (.int (k : Nat)), some (.int (d2 : Nat)), some (.int (maps : Nat)), some (.tup (P.map eStp)), some (.int 2), some (.int (pat : Nat)), none, none, none, none, none, none, none, none, none, none, none, none, none]) (S1 := S1) (by
    simp [pp, pl, e4])]
  rw [seq_nx (ρ1 := [some (.loc b), some (.int (k : Nat)), some (.int (d2 : Nat)), some (.int (maps : Nat)), some (.tup (P.map eStp)), some (.int 2), some (.int (pat : Nat)), some (.lst ((endsOf P).map eN)), none, none, none, none, none, none, none, none, none, none, none, none]) (S1 := S1) (by
    simp [-ev_fz, ends_comp (by omega : P.length ≤ 1000)])]
  rw [seq_nx (ρ1 := [some (.loc b), some (.int (k : Nat)), some (.int (d2 : Nat)), some (.int (maps : Nat)), some (.tup (P.map eStp)), some (.int 2), some (.int (pat : Nat)), some (.lst ((endsOf P).map eN)), some (.loc S.length), some (.loc (S.length + 1)), none, none, none, none, none, none, none, none, none, none]) (S1 := S1 ++ [.lst [], .lst []]) (by
    simp [hL1])]
  refine seq_ex (fun ρ' S' => ∃ looks shown c' o10 o11 o12 o13, ρ' = [some (.loc b), some (.int (k : Nat)), some (.int (d2 : Nat)), some (.int (maps : Nat)), some (.tup (P.map eStp)), some (.int 2), some (.int (pat : Nat)), some (.lst ((endsOf P).map eN)), some (.loc S.length), some (.loc (S.length + 1)), o10, o11, o12, o13, none, none, none, none, none, none] ∧ CrewI k d2 pat maps (maps + 1) looks shown ∧ S'[S.length]? = some (.lst (looks.map lookD)) ∧ S'[S.length + 1]? = some (.lst (shown.map shD)) ∧ S'[b]? = some c' ∧ BoxC (N + 100) c' ∧ Chg [b] S S') ?_ ?_
  · refine for_ok (src := ⟨rngD 0 (maps + 1), []⟩) (S1 := S1 ++ [.lst [], .lst []]) (by simp [rkm]) ?_
    refine for_ex0 (fun t ρ' S' => ∃ looks shown c' o10 o11 o12 o13, ρ' = [some (.loc b), some (.int (k : Nat)), some (.int (d2 : Nat)), some (.int (maps : Nat)), some (.tup (P.map eStp)), some (.int 2), some (.int (pat : Nat)), some (.lst ((endsOf P).map eN)), some (.loc S.length), some (.loc (S.length + 1)), o10, o11, o12, o13, none, none, none, none, none, none] ∧ CrewI k d2 pat maps t looks shown ∧ (∀ q ∈ looks, q.2 < t) ∧ S'[S.length]? = some (.lst (looks.map lookD)) ∧ S'[S.length + 1]? = some (.lst (shown.map shD)) ∧ S'[b]? = some c' ∧ BoxC (N + 4 + 6 * t) c' ∧ Chg [b] S S') _ ?_ ?_ ?_
    · refine ⟨[], [], c4, none, none, none, none, rfl, ⟨by simp, by simp, fun o => by simp [grp], by simp, by simp, by simp⟩, by simp, by simp [hL1], by simp [hL1], ?_, hc4.mono (by omega), ?_⟩
      · rw [List.getElem?_append_left (by omega)]; exact hb1
      · rw [← hS1]; exact (Chg.set (by simp)).push
    · rintro t x ρ' S' hx ⟨looks, shown, c', o10, o11, o12, o13, rfl, A, ho, hs1, hs2, hb', hc', ch⟩
      obtain ⟨hlt', rfl⟩ := rng_at hx
      have hty : t ≤ maps := by omega
      refine ⟨by simp, ?_⟩
      obtain ⟨mm, hmm⟩ : ∃ mm : Nat, mm = if d2 < k then d2 else k := ⟨_, rfl⟩
      have hmm1 : mm ≤ k := by rw [hmm]; split <;> omega
      have hmm2 : mm ≤ d2 := by rw [hmm]; split <;> omega
      have hmmi : (if d2 < k then (d2 : Int) else (k : Int)) = (mm : Nat) := by rw [hmm]; split <;> omega
      obtain ⟨⟨v, S2⟩, e5, h, rfl, h1, h2, h3, c5, hc5, rfl⟩ := r_part (m := mm) hb' hc' (by omega) (by omega : k ≤ 1000) hmm1
      obtain ⟨en, g1, g2, g3⟩ := crew_at hP hty
      have e5' : F__law_part [.loc b, .lst (rngD 0 k), .int (mm : Nat)] S' = some (.tup (h.map eN), S'.set b c5) := e5
      refine Ok.eq (a := ([some (.loc b), some (.int (k : Nat)), some (.int (d2 : Nat)), some (.int (maps : Nat)), some (.tup (P.map eStp)), some (.int 2), some (.int (pat : Nat)), some (.lst ((endsOf P).map eN)), some (.loc S.length), some (.loc (S.length + 1)), some (.int (t : Nat)), o11, o12, o13, none, none, none, none, none, none], S')) (by simp) ?_
      refine for_ok (src := ⟨h.map eN, []⟩) (S1 := S'.set b c5) (by simp [rkk, hmmi, e5']) ?_
      have hbl : b < S'.length := lt_of_get hb'
      refine for_ex0 (fun u ρ' S3 => ∃ extra c' o11 o12 o13, ρ' = [some (.loc b), some (.int (k : Nat)), some (.int (d2 : Nat)), some (.int (maps : Nat)), some (.tup (P.map eStp)), some (.int 2), some (.int (pat : Nat)), some (.lst ((endsOf P).map eN)), some (.loc S.length), some (.loc (S.length + 1)), some (.int (t : Nat)), o11, o12, o13, none, none, none, none, none, none] ∧ extra.length = u ∧ (∀ s ∈ extra, s.1 ∈ h ∧ s.2.length ≤ 1000 ∧ ∀ i, i ≤ maps → (i : Int) ∈ s.2 → countsAt pat t i = true) ∧ S3[S.length]? = some (.lst ((looks ++ (h.take u).map fun x => (x, t)).map lookD)) ∧ S3[S.length + 1]? = some (.lst ((shown ++ extra).map shD)) ∧ S3[b]? = some c' ∧ BoxC (N + 4 + 6 * t + mm + u) c' ∧ Chg [b] S S3) _ ?_ ?_ ?_
      · refine ⟨[], c5, o11, o12, o13, rfl, rfl, by simp, ?_, ?_, set_self' hb', hc5, ch.wr (.inl (by simp))⟩
        · rw [List.getElem?_set_ne (by omega)]; simpa using hs1
        · rw [List.getElem?_set_ne (by omega)]; simpa using hs2
      · rintro u x ρ' S3 hx ⟨extra, c', o11, o12, o13, rfl, x1, x2, s1, s2, hb3, hc3', ch3⟩
        obtain ⟨z, ez, rfl⟩ := map_at hx
        have hzh : z ∈ h := List.mem_of_getElem? ez
        have hul : u < h.length := (List.getElem?_eq_some_iff.mp ez).1
        refine ⟨by simp, ?_⟩
        have hb3l := lt_of_get hb3
        -- the disk
        have q1 := r_disk (S := S3) (m := 2) (by decide) (by decide)
        have q1' : F_Disk___init__ [.loc S3.length, .int 2] (S3 ++ [.ins "Disk" []]) = some (.non, S3 ++ dkNew S3.length 2) := q1
        have hb4 : (S3 ++ dkNew S3.length 2)[b]? = some c' := by rw [List.getElem?_append_left hb3l]; exact hb3
        obtain ⟨dg, c6, q2, hc6, hdg⟩ := r_take (m := 2) hb4 hc3' (by omega) (by decide) (by decide)
        have q2' : F__law_take [.loc b, .int 2] (S3 ++ dkNew S3.length 2) = some (.int (dg : Nat), (S3 ++ dkNew S3.length 2).set b c6) := q2
        obtain ⟨st, w1, w2, w3, w4⟩ := g3 dg hdg
        have hD : DkAt ((S3 ++ dkNew S3.length 2).set b c6) S3.length (S3.length + 1) (S3.length + 2) (S3.length + 3) (Dk.new 2) := dk_at.other (by omega) (by omega) (by omega) (by omega)
        obtain ⟨⟨v, S5⟩, q3, rfl, k5, hk5, R, c5'⟩ := r_run hD P (en - dg) (P := .tup (P.map eStp)) (.inl rfl) w1
        replace R : RunAt S5 S3.length (S3.length + 1) (S3.length + 2) k5 _ _ st := R
        replace c5' : Chg [S3.length, S3.length + 1, S3.length + 2, S3.length + 3] _ S5 := c5'
        have q4 := r_pages R.xd (Dk.okB.sm w2)
        have end_ : (en : Int) - (dg : Int) = ((en - dg : Nat) : Int) := by omega
        have hL0 : S.length ≤ S3.length := ch3.le
        have chA : Chg [b] S ((S3 ++ dkNew S3.length 2).set b c6) := (ch3.push).wr (.inl (by simp))
        have ch5 : Chg [b] S S5 := chA.trans c5' fun m hm h => by simp at h; omega
        have s1l := lt_of_get s1
        have s2l := lt_of_get s2
        have s15 : S5[S.length]? = some (.lst ((looks ++ (h.take u).map fun x => (x, t)).map lookD)) := by
          rw [c5'.at_ _ (by simp; omega) (by simp; omega), List.getElem?_set_ne (by omega), List.getElem?_append_left s1l]; exact s1
        have s25 : S5[S.length + 1]? = some (.lst ((shown ++ extra).map shD)) := by
          rw [c5'.at_ _ (by simp; omega) (by simp; omega), List.getElem?_set_ne (by omega), List.getElem?_append_left s2l]; exact s2
        have hb5 : S5[b]? = some c6 := by
          rw [c5'.at_ _ (by simp; omega) (by simp; omega)]; exact set_self' hb4
        have ll := A.len
        have ll2 := A.len2
        have lb1 : (looks ++ (h.take u).map fun x => (x, t)).length < 1000000 := by
          rw [List.length_append, List.length_map, List.length_take]; omega
        have lb2 : (shown ++ extra).length < 1000000 := by rw [List.length_append]; omega
        have ap1 := append_ok (d := lookD (z, t)) s15 (by rw [List.length_map]; exact lb1)
        have s26 : (S5.set S.length (.lst ((looks ++ (h.take u).map fun x => (x, t)).map lookD ++ [lookD (z, t)])))[S.length + 1]? = some (.lst ((shown ++ extra).map shD)) := by rw [List.getElem?_set_ne (by omega)]; exact s25
        have ap2 := append_ok (d := shD (z, st.d.pages)) s26 (by rw [List.length_map]; exact lb2)
        have hD5 : DkAt (S5.set S.length (.lst ((looks ++ (h.take u).map fun x => (x, t)).map lookD ++ [lookD (z, t)]))) S3.length (S3.length + 1) (S3.length + 2) k5 st.d := R.xd.other (by omega) (by omega) (by omega) (by have := lt_of_get R.xd.q; rcases hk5 with rfl | hk5 <;> simp [dkNew] at * <;> omega)
        have q4' := r_pages hD5 (Dk.okB.sm w2)
        obtain ⟨S6, hS6⟩ : ∃ S6, S6 = (S5.set S.length (.lst ((looks ++ (h.take u).map fun x => (x, t)).map lookD ++ [lookD (z, t)]))).set (S.length + 1) (.lst ((shown ++ extra).map shD ++ [shD (z, st.d.pages)])) := ⟨_, rfl⟩
        obtain ⟨S5a, hS5a⟩ : ∃ S5a, S5a = S5.set S.length (.lst ((looks ++ (h.take u).map fun x => (x, t)).map lookD ++ [lookD (z, t)])) := ⟨_, rfl⟩
        rw [← hS5a] at ap1 s26 hD5 q4' ap2 hS6
        rw [← hS6] at ap2
        have g1' : (if (pat : Int) = 2 ∨ (t : Int) = 0 then atI ((endsOf P).map eN) (t : Int) else atI ((endsOf P).map eN) (2 * (t : Int) - 1)) = some (eN en) := by
          unfold idxFor at g1
          have gg : ∀ i, (endsOf P)[i]? = some en → atI ((endsOf P).map eN) ((i : Nat) : Int) = some (eN en) := fun i hi => DZ.atI_nat (by rw [List.getElem?_map, hi]; rfl)
          by_cases hc : pat = 2 ∨ t = 0
          · rw [if_pos hc] at g1
            rw [if_pos (by omega)]
            exact gg _ g1
          · rw [if_neg hc] at g1
            rw [if_neg (by omega), show 2 * (t : Int) - 1 = ((2 * t - 1 : Nat) : Int) by omega]
            exact gg _ g1
        refine Ok.eq (a := ([some (.loc b), some (.int (k : Nat)), some (.int (d2 : Nat)), some (.int (maps : Nat)), some (.tup (P.map eStp)), some (.int 2), some (.int (pat : Nat)), some (.lst ((endsOf P).map eN)), some (.loc S.length), some (.loc (S.length + 1)), some (.int (t : Nat)), some (eN z), o12, o13, none, none, none, none, none, none], S3)) (by simp) ?_
        refine Ok.eq (a := (.nx, [some (.loc b), some (.int (k : Nat)), some (.int (d2 : Nat)), some (.int (maps : Nat)), some (.tup (P.map eStp)), some (.int 2), some (.int (pat : Nat)), some (.lst ((endsOf P).map eN)), some (.loc S.length), some (.loc (S.length + 1)), some (.int (t : Nat)), some (eN z), some (.loc S3.length), some (eN en), none, none, none, none, none, none], S6)) (by
          rw [seq_nx (ρ1 := [some (.loc b), some (.int (k : Nat)), some (.int (d2 : Nat)), some (.int (maps : Nat)), some (.tup (P.map eStp)), some (.int 2), some (.int (pat : Nat)), some (.lst ((endsOf P).map eN)), some (.loc S.length), some (.loc (S.length + 1)), some (.int (t : Nat)), some (eN z), some (.loc S3.length), o13, none, none, none, none, none, none]) (S1 := S3 ++ dkNew S3.length 2) (by simp [q1'])]
          rw [seq_nx (ρ1 := [some (.loc b), some (.int (k : Nat)), some (.int (d2 : Nat)), some (.int (maps : Nat)), some (.tup (P.map eStp)), some (.int 2), some (.int (pat : Nat)), some (.lst ((endsOf P).map eN)), some (.loc S.length), some (.loc (S.length + 1)), some (.int (t : Nat)), some (eN z), some (.loc S3.length), some (eN en), none, none, none, none, none, none]) (S1 := S3 ++ dkNew S3.length 2) (by
            have mo : ∀ S', opMul (.int 2) (.int (t : Nat)) S' = some (.int (2 * (t : Nat)), S') := fun S' => mul_ok 20 40 (by decide) (by simp; omega) (by decide)
            by_cases h2 : pat = 2
            · rw [if_pos (by omega)] at g1'
              subst h2
              simp [g1']
            · by_cases h0 : t = 0
              · rw [if_pos (by omega)] at g1'
                subst h0
                simp at g1'
                simp [g1']
              · rw [if_neg (by omega)] at g1'
                have h2' : ¬ (pat : Int) = 2 := by omega
                simp [h2', h0, mo, g1', -ev_mul])]
          rw [seq_nx (ρ1 := [some (.loc b), some (.int (k : Nat)), some (.int (d2 : Nat)), some (.int (maps : Nat)), some (.tup (P.map eStp)), some (.int 2), some (.int (pat : Nat)), some (.lst ((endsOf P).map eN)), some (.loc S.length), some (.loc (S.length + 1)), some (.int (t : Nat)), some (eN z), some (.loc S3.length), some (eN en), none, none, none, none, none, none]) (S1 := S5) (by
            have q3' := q3
            rw [← end_] at q3'
            simp [eN, q2', q3'])]
          rw [seq_nx (ρ1 := [some (.loc b), some (.int (k : Nat)), some (.int (d2 : Nat)), some (.int (maps : Nat)), some (.tup (P.map eStp)), some (.int 2), some (.int (pat : Nat)), some (.lst ((endsOf P).map eN)), some (.loc S.length), some (.loc (S.length + 1)), some (.int (t : Nat)), some (eN z), some (.loc S3.length), some (eN en), none, none, none, none, none, none]) (S1 := S5a) (by
            have ap1' : mAppend (.loc S.length) [.tup [eN z, .int (t : Nat)]] S5 = _ := ap1
            simp [lst_loc s15, ap1', -List.map_append])]
          have ap2' : mAppend (.loc (S.length + 1)) [.tup [eN z, .lst (st.d.pages.map .int)]] _ = _ := ap2
          simp [lst_loc s26, q4', ap2', -List.map_append]) ?_
        have ht1 : h.take (u + 1) = h.take u ++ [z] := by rw [List.take_succ, ez]; rfl
        refine ⟨extra ++ [(z, st.d.pages)], c6, _, _, _, rfl, by simp [x1], ?_, ?_, ?_, ?_, hc6.mono (by omega), ?_⟩
        · intro s hs
          rcases List.mem_append.mp hs with hs | hs
          · exact x2 s hs
          · simp at hs; subst hs
            exact ⟨hzh, w3, w4⟩
        · show S6[S.length]? = _
          rw [hS6, List.getElem?_set_ne (by omega), hS5a, List.getElem?_set_self (lt_of_get s15), ht1]
          simp
        · show S6[S.length + 1]? = _
          rw [hS6, List.getElem?_set_self (lt_of_get s26)]
          simp
        · show S6[b]? = _
          rw [hS6, List.getElem?_set_ne (by omega), hS5a, List.getElem?_set_ne (by omega)]
          exact hb5
        · show Chg [b] S S6
          rw [hS6, hS5a]
          exact (ch5.wr (.inr (Nat.le_refl _))).wr (.inr (by omega))
      · rintro ρ' S3 ⟨extra, c', o11, o12, o13, rfl, x1, x2, s1, s2, hb3, hc3', ch3⟩
        refine ⟨by simp, ?_⟩
        rw [List.length_map] at x1 hc3'
        rw [List.length_map, List.take_length] at s1
        have ⟨A2, ho2⟩ := A.next ho hty h1 h3 (by omega) (by omega) x1 x2
        exact ⟨_, _, c', _, _, _, _, rfl, A2, ho2, s1, s2, hb3, hc3'.mono (by omega), ch3⟩
    · rintro ρ' S' ⟨looks, shown, c', o10, o11, o12, o13, rfl, A, ho, hs1, hs2, hb', hc', ch⟩
      refine ⟨by simp, rfl, ?_⟩
      rw [rng_len] at A hc' ho
      exact ⟨looks, shown, c', _, _, _, _, rfl, A, hs1, hs2, hb', hc'.mono (by omega), ch⟩
  · rintro ρ' S' ⟨looks, shown, c', o10, o11, o12, o13, rfl, A, hs1, hs2, hb', hc', ch⟩
    have ll := A.len
    have ll2 := A.len2
    have lc : ∀ o16, compGo (Src.ok ⟨rngD 0 (maps + 1), []⟩) (gVar 16) tTrue (eRgT (aCons (eVar 1) aNil)) [some (.loc b), some (.int (k : Nat)), some (.int (d2 : Nat)), some (.int (maps : Nat)), some (.tup (P.map eStp)), some (.int 2), some (.int (pat : Nat)), some (.lst ((endsOf P).map eN)), some (.loc S.length), some (.loc (S.length + 1)), o10, o11, o12, o13, none, none, none, o16, none, none] (rngD 0 (maps + 1)) S' = some ((List.range (maps + 1)).map fun _ => .tup (rngD 0 k), S') := fun o16 => by
      rw [rngD_eq, comp_mapT (fun i : Nat => D.int (0 + (i : Nat))) (fun _ => .tup (rngD 0 k)) (by simp) (List.range (maps + 1)) fun i hi => ⟨_, by simp; rfl, by simp [rkk]⟩]
    have lr : (rngD 0 (maps + 1)).length ≤ 1000000 := by rw [rng_len]; omega
    rw [seq_nx (ρ1 := [some (.loc b), some (.int (k : Nat)), some (.int (d2 : Nat)), some (.int (maps : Nat)), some (.tup (P.map eStp)), some (.int 2), some (.int (pat : Nat)), some (.lst ((endsOf P).map eN)), some (.loc S.length), some (.loc (S.length + 1)), o10, o11, o12, o13, some (.tup ((List.range (maps + 1)).map fun _ => .tup (rngD 0 k))), none, none, none, none, none]) (S1 := S') (by
      simp [rkm, lr, lc])]
    have tl := r_counted (S := S') (k := k) (maps := maps + 1) (pat := pat) (looks := looks) (by omega) (by omega) (by omega) (by omega) (fun q hq => by have := (A.a q hq).2; omega)
    rw [seq_nx (ρ1 := [some (.loc b), some (.int (k : Nat)), some (.int (d2 : Nat)), some (.int (maps : Nat)), some (.tup (P.map eStp)), some (.int 2), some (.int (pat : Nat)), some (.lst ((endsOf P).map eN)), some (.loc S.length), some (.loc (S.length + 1)), o10, o11, o12, o13, some (.tup ((List.range (maps + 1)).map fun _ => .tup (rngD 0 k))), some (.tup ((List.range (maps + 1)).map fun i => .tup ((toldAt pat k looks i).map eN))), none, none, none, none]) (S1 := S') (by
      generalize ((List.range (maps + 1)).map fun _ => D.tup (rngD 0 k)) = LT at *
      simp [rd_loc hs1, tl, -List.map_map])]
    refine seq_ex (fun ρ' S2 => ∃ o16 o17 o19, ρ' = [some (.loc b), some (.int (k : Nat)), some (.int (d2 : Nat)), some (.int (maps : Nat)), some (.tup (P.map eStp)), some (.int 2), some (.int (pat : Nat)), some (.lst ((endsOf P).map eN)), some (.loc S.length), some (.loc (S.length + 1)), o10, o11, o12, o13, some (.tup ((List.range (maps + 1)).map fun _ => .tup (rngD 0 k))), some (.tup ((List.range (maps + 1)).map fun i => .tup ((toldAt pat k looks i).map eN))), o16, o17, none, o19] ∧ S2 = S') ?_ ?_
    · refine for_ok (src := ⟨rngD 0 (maps + 1), []⟩) (S1 := S') (by simp [rkm]) ?_
      refine for_ex0 (fun t ρ' S2 => ∃ o16 o17 o19, ρ' = [some (.loc b), some (.int (k : Nat)), some (.int (d2 : Nat)), some (.int (maps : Nat)), some (.tup (P.map eStp)), some (.int 2), some (.int (pat : Nat)), some (.lst ((endsOf P).map eN)), some (.loc S.length), some (.loc (S.length + 1)), o10, o11, o12, o13, some (.tup ((List.range (maps + 1)).map fun _ => .tup (rngD 0 k))), some (.tup ((List.range (maps + 1)).map fun i => .tup ((toldAt pat k looks i).map eN))), o16, o17, none, o19] ∧ S2 = S') _ ⟨_, _, _, rfl, rfl⟩ ?_ ?_
      · rintro t x ρ' S2 hx ⟨o16, o17, o19, rfl, rfl⟩
        obtain ⟨htm, rfl⟩ := rng_at hx
        refine ⟨by simp, ?_⟩
        obtain ⟨LT, hLT⟩ : ∃ LT : D, LT = .tup ((List.range (maps + 1)).map fun _ => .tup (rngD 0 k)) := ⟨_, rfl⟩
        obtain ⟨TD, hTD⟩ : ∃ TD : List D, TD = (List.range (maps + 1)).map fun i => .tup ((toldAt pat k looks i).map eN) := ⟨_, rfl⟩
        rw [← hLT, ← hTD]
        have tdi : atI TD (t : Nat) = some (.tup ((toldAt pat k looks t).map eN)) := DZ.atI_nat (by rw [hTD]; simp [htm])
        obtain ⟨fs, hfs⟩ : ∃ fs : List Int, fs = (shown.filter fun s => decide ((t : Int) ∈ s.2)).map fun s => (s.1 : Int) := ⟨_, rfl⟩
        have fl : fs.length ≤ shown.length := by rw [hfs, List.length_map]; exact List.length_filter_le _ _
        have hsl : shown.length ≤ 1000000 := by omega
        have c1 : ∀ o17, compGo (Src.ok ⟨shown.map shD, [(S.length + 1, .lst (shown.map shD))]⟩) (gTupF 2 (gConsF (gVar 11) (gConsF (gVar 19) gNilF))) (tOf (eBin opIn (eVar 16) (eVar 19))) (eVar 11) [some (.loc b), some (.int (k : Nat)), some (.int (d2 : Nat)), some (.int (maps : Nat)), some (.tup (P.map eStp)), some (.int 2), some (.int (pat : Nat)), some (.lst ((endsOf P).map eN)), some (.loc S.length), some (.loc (S.length + 1)), o10, none, o12, o13, some LT, some (.tup TD), some (.int (t : Nat)), o17, none, none] (shown.map shD) S2 = some (fs.map .int, S2) := fun o17 => by
          rw [comp_map shD (fun s => decide ((t : Int) ∈ s.2)) (fun s => .int (s.1 : Nat)) (by simpa using hs2) shown fun s hs => ⟨_, by simp [shD]; rfl, by simp [in_ints], fun _ => by simp⟩, hfs]
          simp
        have hmem : ∀ x ∈ sortedSet fs, inD S2 (.int x) (.tup ((toldAt pat k looks t).map eN)) = some true := fun x hx => by
          have hx' := mem_sortedSet hx
          rw [hfs] at hx'
          obtain ⟨s, hs, rfl⟩ := List.mem_map.mp hx'
          obtain ⟨hs, hst⟩ := List.mem_filter.mp hs
          simp only [decide_eq_true_eq] at hst
          obtain ⟨a1, a2, own, a3, a4⟩ := A.s s hs
          rw [in_eN]
          congr 1
          rw [decide_eq_true_iff]
          refine List.mem_filter.mpr ⟨List.mem_range.mpr a1, List.any_eq_true.mpr ⟨_, a3, ?_⟩⟩
          simp [a4 t (by omega) hst]
        have sl : (sortedSet fs).length ≤ 1000000 := by
          have h1 : (sortedSet fs).length ≤ (fs.mergeSort (fun a b => decide (a ≤ b))).length := by
            unfold sortedSet
            have : (fs.mergeSort (fun a b => decide (a ≤ b))).eraseDups ⊆ fs.mergeSort (fun a b => decide (a ≤ b)) := fun x hx => List.mem_eraseDups.mp hx
            exact List.Nodup.length_le_of_subset ((eraseDups_sorted _ _ (Nat.le_refl _) (msort_sorted fs)).imp fun {a b} h => by omega) this
          rw [List.length_mergeSort] at h1
          omega
        have c2 : ∀ o11, compGo (Src.ok ⟨(sortedSet fs).map .int, []⟩) (gVar 11) tTrue (eBin opIn (eVar 11) (eBin opIx (eVar 15) (eVar 16))) [some (.loc b), some (.int (k : Nat)), some (.int (d2 : Nat)), some (.int (maps : Nat)), some (.tup (P.map eStp)), some (.int 2), some (.int (pat : Nat)), some (.lst ((endsOf P).map eN)), some (.loc S.length), some (.loc (S.length + 1)), o10, o11, o12, o13, some LT, some (.tup TD), some (.int (t : Nat)), some (.lst ((sortedSet fs).map .int)), none, o19] ((sortedSet fs).map .int) S2 = some ((sortedSet fs).map fun _ => .bl true, S2) := fun o11 => by
          rw [comp_mapT D.int (fun _ => .bl true) (by simp) (sortedSet fs) fun x hx => ⟨_, by simp; rfl, by simp [tdi, hmem x hx]⟩]
        have b2 := blsOf_map' (fun _ : Int => true) (sortedSet fs)
        have f63 : fs.length < 63 := by omega
        have mc := r_most_counted (S := S2) (k := k) (l := d2) (d := pat) (by omega) (by omega)
        have t1 := told_k (pat := pat) (k := k) (looks := looks) (i := t)
        have t2 := told_l (pat := pat) (k := k) (looks := looks) (i := t) A.g
        have ngt : ¬ (if (d2 : Int) * ((pat : Int) + 1) < (k : Int) then (d2 : Int) * ((pat : Int) + 1) else (k : Int)) < ((toldAt pat k looks t).length : Nat) := by
          have : (d2 : Int) * ((pat : Int) + 1) = ((d2 * (pat + 1) : Nat) : Int) := by push_cast; rfl
          rw [this]
          split <;> omega
        refine Ok.eq (a := ([some (.loc b), some (.int (k : Nat)), some (.int (d2 : Nat)), some (.int (maps : Nat)), some (.tup (P.map eStp)), some (.int 2), some (.int (pat : Nat)), some (.lst ((endsOf P).map eN)), some (.loc S.length), some (.loc (S.length + 1)), o10, o11, o12, o13, some LT, some (.tup TD), some (.int (t : Nat)), o17, none, o19], S2)) (by simp) ?_
        refine Ok.eq (a := (.nx, [some (.loc b), some (.int (k : Nat)), some (.int (d2 : Nat)), some (.int (maps : Nat)), some (.tup (P.map eStp)), some (.int 2), some (.int (pat : Nat)), some (.lst ((endsOf P).map eN)), some (.loc S.length), some (.loc (S.length + 1)), o10, o11, o12, o13, some LT, some (.tup TD), some (.int (t : Nat)), some (.lst ((sortedSet fs).map .int)), none, o19], S2)) (by
          rw [seq_nx (ρ1 := [some (.loc b), some (.int (k : Nat)), some (.int (d2 : Nat)), some (.int (maps : Nat)), some (.tup (P.map eStp)), some (.int 2), some (.int (pat : Nat)), some (.lst ((endsOf P).map eN)), some (.loc S.length), some (.loc (S.length + 1)), o10, o11, o12, o13, some LT, some (.tup TD), some (.int (t : Nat)), some (.lst ((sortedSet fs).map .int)), none, o19]) (S1 := S2) (by
            simp [src_loc hs2, hsl, c1, aSortedSet, intsOf_map', f63])]
          rw [seq_nx (ρ1 := [some (.loc b), some (.int (k : Nat)), some (.int (d2 : Nat)), some (.int (maps : Nat)), some (.tup (P.map eStp)), some (.int 2), some (.int (pat : Nat)), some (.lst ((endsOf P).map eN)), some (.loc S.length), some (.loc (S.length + 1)), o10, o11, o12, o13, some LT, some (.tup TD), some (.int (t : Nat)), some (.lst ((sortedSet fs).map .int)), none, o19]) (S1 := S2) (by
            simp [sl, c2, b2])]
          simp [tdi, mc, ngt]) ?_
        exact ⟨_, _, _, by rw [hLT, hTD], rfl⟩
      · rintro ρ' S2 ⟨o16, o17, o19, rfl, rfl⟩
        exact ⟨by simp, rfl, _, _, _, rfl, rfl⟩
    · rintro ρ' S2 ⟨o16, o17, o19, rfl, rfl⟩
      have sp := r_is_spread (S := S2) A.nd A.g (by omega)
      have kc := r_kept_copies (S := S2) (l := d2) (d := pat) (by omega) (by omega)
      have mo : ∀ S', opMul (.int (d2 : Nat)) (.int ((pat : Int) + 1)) S' = some (.int ((d2 : Int) * ((pat : Int) + 1)), S') := fun S' => mul_ok 40 40 (by omega) (by omega) (by decide)
      have mo3 : ∀ S', opMul (.int 3) (.int 1) S' = some (.int 3, S') := fun S' => mul_ok 20 20 (by decide) (by decide) (by decide)
      have sm := r_same_int (S := S2) (n := 2) (a := 3 + (d2 : Int) * ((pat : Int) + 1) + 1) (b := 3 + (d2 : Int) * ((pat : Int) + 1) + 1)
      refine Ok.eq (a := (.rt (.bl true), _, S2)) (by
        rw [seq_nx (ρ1 := [some (.loc b), some (.int (k : Nat)), some (.int (d2 : Nat)), some (.int (maps : Nat)), some (.tup (P.map eStp)), some (.int 2), some (.int (pat : Nat)), some (.lst ((endsOf P).map eN)), some (.loc S.length), some (.loc (S.length + 1)), o10, o11, o12, o13, some (.tup ((List.range (maps + 1)).map fun _ => .tup (rngD 0 k))), some (.tup ((List.range (maps + 1)).map fun i => .tup ((toldAt pat k looks i).map eN))), o16, o17, some (.int (3 + (d2 : Int) * ((pat : Int) + 1) + 1)), o19]) (S1 := S2) (by simp [mo, mo3, -ev_mul])]
        simp [rd_loc hs1, sp, kc, sm]
        rfl) ?_
      refine Ok.eq (a := (.bl true, S2)) rfl ⟨ch, c', hb', hc'.bel, _, frz_bl, rfl, c', hc', rfl⟩
end W95

namespace W95
open PySem PySem.Spec PyProof.Rows L2 DZ
variable {S : Store}
theorem r_law {ns : List Int} : Ok (F_law [.scr ns] S) fun r => r.1 = .bl true := by
  obtain ⟨c0, e0, hc0⟩ := r_box (S := S) (ns := ns) (k := 0) (by decide)
  have e0' : F__law_box [.scr ns, .int 0] S = some (.loc S.length, S ++ [c0]) := e0
  have hb0 : (S ++ [c0])[S.length]? = some c0 := by simp
  obtain ⟨maps, c1, e1, hc1, hm⟩ := r_take (m := 9) hb0 hc0 (by decide) (by decide) (by decide)
  have e1' : F__law_take [.loc S.length, .int 9] (S ++ [c0]) = some (.int (maps : Nat), (S ++ [c0]).set S.length c1) := e1
  rw [set_last] at e1'
  have pp := r_prompt (S := S ++ [c1]) (m := maps) (by omega)
  have pl := r_lag (S := S ++ [c1]) (m := maps) (by omega)
  obtain ⟨m4, hm4⟩ : ∃ m4 : Nat, m4 = if 4 < maps then 4 else maps := ⟨_, rfl⟩
  have hm4' : m4 ≤ 4 := by rw [hm4]; split <;> omega
  have hm4i : (if (4 : Int) < (maps : Int) then (4 : Int) else (maps : Int)) = (m4 : Nat) := by rw [hm4]; split <;> split <;> omega
  have pd := r_deal (S := S ++ [c1]) (m := m4) (by omega)
  have k1 := List.all_eq_true.mp chk_prompt maps (List.mem_range.mpr hm)
  have k2 := List.all_eq_true.mp chk_lag maps (List.mem_range.mpr hm)
  have k3 := List.all_eq_true.mp chk_deal m4 (List.mem_range.mpr (by omega))
  have lens : ∀ {slots plan pat}, keptOk slots plan pat = true → plan.length ≤ 200 := fun h => by
    simp only [keptOk, Bool.and_eq_true, decide_eq_true_eq] at h
    exact h.1
  refine run_ok ?_
  show Ok (B_law [some (.scr ns), none, none, none, none, none] S) _
  unfold B_law
  rw [seq_nx (ρ1 := [some (.scr ns), some (.loc S.length), none, none, none, none]) (S1 := S ++ [c0]) (by simp [e0'])]
  rw [seq_nx (ρ1 := [some (.scr ns), some (.loc S.length), some (.int (maps : Nat)), none, none, none]) (S1 := S ++ [c1]) (by simp [e1'])]
  obtain ⟨⟨v, T2⟩, f1, rfl, c2, hc2, rfl⟩ := r_kept' (slots := 2) (plan := promptP maps) (pat := 1) (S := S ++ [c1]) (b := S.length) (c := c1) (by simp) hc1 (by decide) (by decide) (by decide) k1
  rw [set_last] at f1
  obtain ⟨⟨v, T3⟩, f2, rfl, c3, hc3, rfl⟩ := r_kept' (slots := 2) (plan := lagP maps) (pat := 2) (S := S ++ [c2]) (b := S.length) (c := c2) (by simp) hc2 (by have := lens k1; omega) (by decide) (by decide) k2
  rw [set_last] at f2
  obtain ⟨⟨v, T4⟩, f3, rfl, c4, hc4, rfl⟩ := r_kept' (slots := 3) (plan := dealP m4) (pat := 1) (S := S ++ [c3]) (b := S.length) (c := c3) (by simp) hc3 (by have := lens k1; have := lens k2; omega) (by decide) (by decide) k3
  rw [set_last] at f3
  have l1 := lens k1
  have l2 := lens k2
  have l3 := lens k3
  obtain ⟨⟨v, T5⟩, f4, rfl, c5, hc5, rfl⟩ := r_added (S := S ++ [c4]) (b := S.length) (c := c4) (by simp) hc4 (by omega)
  rw [set_last] at f4
  obtain ⟨⟨v, T6⟩, f5, rfl, c6, hc6, rfl⟩ := r_crews (S := S ++ [c5]) (b := S.length) (c := c5) (by simp) hc5 (by omega)
  rw [set_last] at f5
  obtain ⟨d0, g0, hd0⟩ := r_box (S := S ++ [c6]) (ns := ns) (k := 1) (by decide)
  have g0' : F__law_box [.scr ns, .int 1] (S ++ [c6]) = some (.loc (S.length + 1), S ++ [c6] ++ [d0]) := by rw [← show (S ++ [c6]).length = S.length + 1 by simp]; exact g0
  obtain ⟨⟨v, T7⟩, f6, rfl, d1, hd1, rfl⟩ := r_crews (S := S ++ [c6] ++ [d0]) (b := S.length + 1) (c := d0) (by simp) hd0 (by decide)
  have sm1 := r_same_int (S := S ++ [c4]) (n := 2) (a := 2) (b := 2)
  have sm2 := r_same_int (S := S ++ [c4]) (n := 2) (a := 3) (b := 3)
  have kp1 := r_kept (S := S ++ [c4]) (d := 1) (r := 1) (q := 0)
  have kp2 := r_kept (S := S ++ [c4]) (d := 2) (r := 1) (q := 0)
  simp at sm1 sm2 kp1 kp2
  have f1' : F__law_kept [.loc S.length, .int 2, .tup ((promptP maps).map eStp), .int 1] (S ++ [c1]) = some (.bl true, S ++ [c2]) := f1
  have f2' : F__law_kept [.loc S.length, .int 2, .tup ((lagP maps).map eStp), .int 2] (S ++ [c2]) = some (.bl true, S ++ [c3]) := f2
  have f3' : F__law_kept [.loc S.length, .int 3, .tup ((dealP m4).map eStp), .int 1] (S ++ [c3]) = some (.bl true, S ++ [c4]) := f3
  rw [seq_nx (ρ1 := [some (.scr ns), some (.loc S.length), some (.int (maps : Nat)), some (.tup ((dealP m4).map eStp)), some (.int 3), some (.int 1)]) (S1 := S ++ [c4]) (by
    generalize (dealP m4).map eStp = DP at *
    generalize (promptP maps).map eStp = PP at *
    generalize (lagP maps).map eStp = LP at *
    simp [pp, pl, pd, hm4i, forGo, f1', f2', f3'])]
  rw [seq_nx (ρ1 := [some (.scr ns), some (.loc S.length), some (.int (maps : Nat)), some (.tup ((dealP m4).map eStp)), some (.int 3), some (.int 1)]) (S1 := S ++ [c4]) (by
    simp [kp1, kp2, sm1, sm2])]
  simp only [List.append_assoc, List.cons_append, List.nil_append] at g0' f6
  simp [f4, f5, g0', f6]
end W95

namespace W95
open PySem PySem.Spec PyProof.Rows L2 DZ
abbrev R : PySem.W.OpenRow := PySem.W.OpenLaw.row PySem.Challenge.rw_keysapart_k95_whole_what_disks_keep_coun
def hkX : PySem.W.Hook := DZ.hookE 5 fa fn ex
def ob (s : PySem.W.SharedT) : He.AlD × Bool := DZ.obsE 5 fa fn ex (HandSHeadRun.getT s)
theorem ob_eq (s : PySem.W.SharedT) : ob s = hkX.obs s.abs := DZ.obsE_eq (HandSHeadRun.getT_eq s)
def loose_0 : List Str := ["KeysError", "Refused", "InvalidDisk", "is_integer", "is_number", "is_ascending", "Disk", "Ledge", "is_plan", "PlanFault", "plan_fault", "flushes_in", "prompt_plan", "lagging_plan", "dealing_plan", "pens_from", "counts_at", "kept", "counted_long", "is_spread", "most_counted", "kept_copies", "_law_take", "_law_pick", "_law_part", "_law_box", "_law_same", "_law_newest", "_law_pages", "_law_run"]
def loose_1 : List Str := ["_law_cut", "_law_kept", "_law_added", "_law_crews", "MOST_SLOTS", "TORN", "MOST_STEPS", "MOST_PAGE", "BLANK"]
def loose : List Str := loose_0 ++ loose_1
theorem run (w : World) : HandSHeadRun.RunEq R (PySem.W.view R.prog [45]) hkX ob 4000 loose w := by
  intro os
  kernel_rfl
theorem facts {P : Program} {w : World} {K : PySem.W.Frag} {h : Heap} {mg : Str → Option Value} {f : Addr} (X : K.In h) (G : h.Ns mainGlobals mg) (hfa : mg ("law" : Str) = some (.ref f)) (c : He.SaysD fa fn K) (he : ex K = true) :
    ∃ fd : FuncData, (∀ (s : Shared) (v : Value), BindsTo s fd ⟨[v], []⟩ [("script", v)]) ∧ ∀ base : Heap, FnOk P w K mg base CX0 9 f fd ["script"] (liftSp ⟨K, clsOf K cs⟩ 1 F_law) := by
  have e := hfa.symm.trans (go_law X G c)
  cases e
  obtain ⟨fd, Fd⟩ := c.def_ 46 (d := d46) rfl
  have b := FunD.bindsA (ps := ["script"]) Fd fun _ _ _ _ _ _ us hl => match us, hl with | [_], _ => rfl
  refine ⟨fd, fun s v => b s [v] rfl, fun base => ?_⟩
  obtain ⟨fd', Fd', hok⟩ := ok_law (P := P) (w := w) (base := base) X G c he
  have : fd = fd' := by
    obtain ⟨oc, od, dV, kV, doc, pm, an, cdv, ct, osl, e1, lk, _⟩ := Fd.ex
    obtain ⟨oc', od', dV', kV', doc', pm', an', cdv', ct', osl', e1', lk', _⟩ := Fd'.ex
    have e2 := lk.symm.trans lk'
    injection e2 with e3
    injection e3 with _ _ e4 _
    injection e4
  subst this
  exact hok
theorem says {K : PySem.W.Frag} {H : Hp} {a : Addr} {ns : List Int} (hS : SqL K H a (ns.map V.int)) : liftSp ⟨K, clsOf K cs⟩ 1 F_law [.ref a] H (fun v _ => v = .bl true) (fun _ _ _ => False) := by
  obtain ⟨⟨d, S'⟩, e, hd⟩ := r_law (S := []) (ns := ns)
  refine ⟨rfl, ⟨[], []⟩, [], [.scr ns], d, S', ⟨rfl, List.nodup_nil, fun n c p h => by simp at h, fun p h => by simp at h, fun p h => by simp at h⟩, ?_, e, ?_⟩
  · simp only [RepVs, RepV]
    refine ⟨.ref a, [], rfl, ⟨a, rfl, ?_⟩, rfl⟩
    rcases hS with h | h
    · exact .inl ⟨h, by simp [Wo.no]⟩
    · exact .inr fun H => .inr h
  · intro w' H' v a' s' r
    have hd' : d = .bl true := hd
    subst hd'
    simpa only [RepV] using r
end W95
open PySem PySem.W PySem.Calls PyProof.Rows
set_option maxRecDepth 100000 in
set_option maxHeartbeats 0 in
theorem PySem.Challenge.cw_keysapart_k95_whole_what_disks_keep_coun_holds : PySem.Challenge.rw_keysapart_k95_whole_what_disks_keep_coun.Holds := by
  w_on; o_law
  refine HandSHeadRun.head_any (r := OpenLaw.row PySem.Challenge.rw_keysapart_k95_whole_what_disks_keep_coun) (q := view (OpenLaw.row PySem.Challenge.rw_keysapart_k95_whole_what_disks_keep_coun).prog [45]) (H := W95.hkX) (ob := W95.ob) (M := 4000) (loose := W95.loose) (d := HandSHeadRun.topDef (OpenLaw.row PySem.Challenge.rw_keysapart_k95_whole_what_disks_keep_coun).prog 45) (kwd := []) W95.ob_eq
    (by kernel_rfl) (fun s => by kernel_rfl) W95.run (by kernel_rfl) (by kernel_rfl) (by kernel_rfl) (by rfl) (by first | assumption | decide +kernel) (by decide +kernel) ⟨rfl, rfl, rfl, rfl, rfl, by decide +kernel⟩ ?hw ?hc
  case hw => w_witness2
  case hc =>
    refine L2.walk_ofE (l := PySem.Challenge.rw_keysapart_k95_whole_what_disks_keep_coun) (n := 63) (k := 9) (x := "script") (CX := L2.CX0) rfl (by decide) (by kernel_rfl) ⟨rfl, by decide, by decide⟩ ?F (fun _ _ _ _ z => z)
    intro w mg fa h Y G hmg0
    obtain ⟨K, KX, c, he⟩ := Y
    have hmg : mg ("law" : PySem.Str) = some (.ref fa) := by
      have e : (HandSHeadRun.topDef (OpenLaw.row PySem.Challenge.rw_keysapart_k95_whole_what_disks_keep_coun).prog 45).name = ("law" : PySem.Str) := by kernel_rfl
      rw [← e]
      exact hmg0
    obtain ⟨fd, hb, hF⟩ := W95.facts (P := (PySem.Challenge.rw_keysapart_k95_whole_what_disks_keep_coun).prog) (w := w) KX G hmg c he
    exact ⟨K, fd, _, KX, hb, fun H a ns hl _ hS => W95.says hS, fun base _ _ => hF base⟩
