import PyProof.Rows.All
import Wide.All
import OpenK.AllK
import Wide.FinOn
import HandS.ForMost
import HandS.IsInst
import HandS.TupLe
import HandS.Conv
import HandS.Deep
import HandS.Sort
import HandS.SortRule
import HandS.SortInts
import HandS.Flow
import HandS.Evl
import PySem.Challenge.RW_cherrystone_k17_whole_greatest_matchings
set_option Elab.async false
set_option linter.all false
namespace Cherry

/-- function update -/
def fu {α : Type} (f : Nat → α) (i : Nat) (v : α) : Nat → α := fun x => if x = i then v else f x
theorem fu_same {α : Type} (f : Nat → α) (i : Nat) (v : α) : fu f i v i = v := by simp [fu]
theorem fu_ne {α : Type} (f : Nat → α) {i x : Nat} (v : α) (h : x ≠ i) : fu f i v x = f x := by simp [fu, h]

/-- reading in bounds -/
def rd {α : Type} (n : Nat) (f : Nat → α) (i : Nat) : Option α := if i < n then some (f i) else none
theorem rd_lt {α : Type} {n : Nat} {f : Nat → α} {i : Nat} (h : i < n) : rd n f i = some (f i) := by simp [rd, h]
theorem rd_some {α : Type} {n : Nat} {f : Nat → α} {i : Nat} {v : α} (h : rd n f i = some v) : i < n ∧ f i = v := by
  unfold rd at h
  split at h
  · exact ⟨by assumption, Option.some.inj h⟩
  · cases h

structure St where
  h : Nat → Nat
  b : Nat → Option Nat
  o : List Nat

/-! ### The mirror -/
section
variable (n : Nat) (lk : Nat → List Nat) (p : Nat → Option Nat)

def ancL (h : Nat → Nat) (b : Nat → Option Nat) : Nat → Nat → Option (List Nat)
  | 0, _ => none
  | k + 1, here =>
    (rd n p here).bind fun q => match q with
      | none => some [here]
      | some other => (rd n b other).bind fun zo => zo.bind fun z => (rd n h z).bind fun h' =>
          (ancL h b k h').map (here :: ·)

def anc (st : St) (x : Nat) : Option (List Nat) := (rd n st.h x).bind fun h' => ancL n p st.h st.b (n + 1) h'

def meeting (st : St) (u w : Nat) : Option Nat :=
  (anc n p st u).bind fun known => (anc n p st w).bind fun l => l.find? (fun c => decide (c ∈ known))

def markL (h : Nat → Nat) (c : Nat) : Nat → Nat → Nat → List Nat → (Nat → Option Nat) → Option (List Nat × (Nat → Option Nat))
  | 0, _, _, _, _ => none
  | k + 1, x, child, ins, b =>
    (rd n h x).bind fun hx => if hx = c then some (ins, b) else
      (rd n p x).bind fun q => q.bind fun y => (rd n h y).bind fun hy =>
        (rd n (fu b x (some child)) y).bind fun zo => zo.bind fun z =>
          markL h c k z y (ins ++ [hx, hy]) (fu b x (some child))

def shrinkStep (c : Nat) (ins : List Nat) (ho : (Nat → Nat) × List Nat) (x : Nat) : (Nat → Nat) × List Nat :=
  if ho.1 x ∈ ins then (fu ho.1 x c, if x ∈ ho.2 then ho.2 else ho.2 ++ [x]) else ho

def shrink (st : St) (u w : Nat) : Option St :=
  (meeting n p st u w).bind fun c =>
    (markL n p st.h c (n + 1) u w [] st.b).bind fun r1 =>
      (markL n p st.h c (n + 1) w u r1.1 r1.2).bind fun r2 =>
        let ho := (List.range n).foldl (shrinkStep c r2.1) (st.h, st.o)
        some ⟨ho.1, r2.2, ho.2⟩

def reach (st : St) (x z : Nat) : Option (Bool × St) :=
  (rd n st.h x).bind fun hx => (rd n st.h z).bind fun hz => (rd n p x).bind fun px =>
    if hx = hz ∨ px = some z then some (false, st)
    else if z ∈ st.o then (shrink n p st x z).map fun st' => (false, st')
    else (rd n st.b z).bind fun bz => match bz with
      | some _ => some (false, st)
      | none => (rd n p z).bind fun pz => match pz with
        | none => some (true, ⟨st.h, fu st.b z (some x), st.o⟩)
        | some t => some (false, ⟨st.h, fu st.b z (some x), st.o ++ [t]⟩)

def runFor (x : Nat) : List Nat → St → Option (Option Nat × St)
  | [], st => some (none, st)
  | z :: r, st => (reach n p st x z).bind fun q => if q.1 then some (some z, q.2) else runFor x r q.2

def runL : Nat → Nat → St → Option (Option Nat × St)
  | 0, _, _ => none
  | k + 1, i, st => match st.o[i]? with
    | none => some (none, st)
    | some x => (rd n lk x).bind fun ls => (runFor n p x ls st).bind fun q => match q.1 with
      | some t => some (some t, q.2)
      | none => runL k (i + 1) q.2

def st0 (r : Nat) : St := ⟨id, fun _ => none, [r]⟩
def run (r : Nat) : Option (Option Nat × St) := runL n lk p (n + 1) 0 (st0 r)

def pathL (b : Nat → Option Nat) : Nat → Nat → Option (List Nat)
  | 0, _ => none
  | k + 1, x => (rd n b x).bind fun yo => yo.bind fun y => (rd n p y).bind fun q => match q with
    | none => some [x, y]
    | some z => (pathL b k z).map fun l => x :: y :: l

def augmenting (r : Nat) : Option (Option (List Nat)) :=
  (run n lk p r).bind fun q => match q.1 with
    | none => some none
    | some t => (pathL n p q.2.b (n + 1) t).map some
end

def flip : (Nat → Option Nat) → List Nat → (Nat → Option Nat)
  | p, a :: c :: l => flip (fu (fu p a (some c)) c (some a)) l
  | p, _ => p

def greatStep (n : Nat) (lk : Nat → List Nat) (p : Nat → Option Nat) (x : Nat) : Option (Nat → Option Nat) :=
  match p x with
  | some _ => some p
  | none => (augmenting n lk p x).map fun q => match q with
    | none => p
    | some l => flip p l

def greatest (n : Nat) (lk : Nat → List Nat) : Option (Nat → Option Nat) :=
  (List.range n).foldlM (greatStep n lk) (fun _ => none)

def leftStep (n : Nat) (lk : Nat → List Nat) (p : Nat → Option Nat) (f : List Nat) (x : Nat) : Option (List Nat) :=
  match p x with
  | some _ => some f
  | none => (run n lk p x).map fun q => f ++ q.2.o.filter (fun y => decide (y ∉ f))

def leftOut (n : Nat) (lk : Nat → List Nat) (p : Nat → Option Nat) : Option (List Nat) :=
  ((List.range n).foldlM (leftStep n lk p) []).map fun f => (List.range n).filter (fun x => decide (x ∈ f))

def near (n : Nat) (lk : Nat → List Nat) (left : List Nat) : List Nat :=
  (List.range n).filter fun x => decide (x ∉ left) && (lk x).any fun y => decide (y ∈ left)

def edgesOf (n : Nat) (p : Nat → Option Nat) : List (Nat × Nat) :=
  (List.range n).filterMap fun x => match p x with
    | some y => if x < y then some (x, y) else none
    | none => none

/-! test -/
def lkOf (es : List (Nat × Nat)) (x : Nat) : List Nat :=
  (es.filterMap fun e => if e.1 = x then some e.2 else if e.2 = x then some e.1 else none)

/-! ### Traces -/
inductive Tr (p b : Nat → Option Nat) (r : Nat) : Nat → List Nat → Prop
  | root : Tr p b r r [r]
  | step {x y z : Nat} {l : List Nat} (hp : p x = some y) (hb : b y = some z) (t : Tr p b r z l) : Tr p b r x (x :: l)

def Good (p : Nat → Option Nat) (l : List Nat) : Prop := l.Nodup ∧ ∀ a ∈ l, ∀ c ∈ l, p a ≠ some c

theorem Good.tail {p : Nat → Option Nat} {x : Nat} {l : List Nat} (g : Good p (x :: l)) : Good p l :=
  ⟨(List.nodup_cons.mp g.1).2, fun a ha c hc => g.2 a (List.mem_cons_of_mem _ ha) c (List.mem_cons_of_mem _ hc)⟩

theorem Tr.mem {p b : Nat → Option Nat} {r x : Nat} {l : List Nat} (t : Tr p b r x l) : x ∈ l := by
  cases t <;> simp
theorem Tr.rmem {p b : Nat → Option Nat} {r x : Nat} {l : List Nat} (t : Tr p b r x l) : r ∈ l := by
  induction t with
  | root => simp
  | step _ _ _ ih => exact List.mem_cons_of_mem _ ih

theorem Tr.det {p b : Nat → Option Nat} {r x : Nat} {l l' : List Nat} (hr : p r = none) (t : Tr p b r x l) (t' : Tr p b r x l') : l = l' := by
  induction t generalizing l' with
  | root =>
    cases t' with
    | root => rfl
    | step hp _ _ => rw [hr] at hp; cases hp
  | step hp hb t ih =>
    cases t' with
    | root => rw [hr] at hp; cases hp
    | step hp' hb' t' =>
      have e := Option.some.inj (hp.symm.trans hp')
      subst e
      have e := Option.some.inj (hb.symm.trans hb')
      subst e
      rw [ih t']

theorem Tr.suffix {p b : Nat → Option Nat} {r x a : Nat} {l : List Nat} (t : Tr p b r x l) (ha : a ∈ l) :
    ∃ l', Tr p b r a l' ∧ (∀ q, q ∈ l' → q ∈ l) ∧ l'.length ≤ l.length := by
  induction t with
  | root =>
    have e : a = r := by simpa using ha
    subst e
    exact ⟨_, .root, fun q h => h, Nat.le_refl _⟩
  | step hp hb t ih =>
    rcases List.mem_cons.mp ha with e | h
    · subst e
      exact ⟨_, .step hp hb t, fun q h => h, Nat.le_refl _⟩
    · obtain ⟨l', t', h1, h2⟩ := ih h
      exact ⟨l', t', fun q hq => List.mem_cons_of_mem _ (h1 q hq), by simp; omega⟩

theorem Tr.congr {p b b' : Nat → Option Nat} {r x : Nat} {l : List Nat} (t : Tr p b r x l)
    (h : ∀ a ∈ l, ∀ y, p a = some y → b' y = b y) : Tr p b' r x l := by
  induction t with
  | root => exact .root
  | step hp hb t ih =>
    exact .step hp ((h _ (List.mem_cons_self ..) _ hp).trans hb) (ih fun a ha y hy => h a (List.mem_cons_of_mem _ ha) y hy)

/-- the graph -/
structure Gr (n : Nat) (lk : Nat → List Nat) : Prop where
  lt : ∀ x y, y ∈ lk x → y < n
  sym : ∀ x y, y ∈ lk x → x ∈ lk y
  irr : ∀ x, x ∉ lk x

/-- a matching by partners -/
structure Mt (lk : Nat → List Nat) (p : Nat → Option Nat) : Prop where
  sym : ∀ x y, p x = some y → p y = some x
  adj : ∀ x y, p x = some y → y ∈ lk x

theorem Mt.inj {lk : Nat → List Nat} {p : Nat → Option Nat} (M : Mt lk p) {x y z : Nat} (h1 : p x = some z) (h2 : p y = some z) : x = y :=
  Option.some.inj ((M.sym _ _ h1).symm.trans (M.sym _ _ h2))
theorem Mt.irr {n : Nat} {lk : Nat → List Nat} {p : Nat → Option Nat} (G : Gr n lk) (M : Mt lk p) {x : Nat} (h1 : p x = some x) : False :=
  G.irr x (M.adj _ _ h1)
theorem Mt.lt {n : Nat} {lk : Nat → List Nat} {p : Nat → Option Nat} (G : Gr n lk) (M : Mt lk p) {x y : Nat} (h1 : p x = some y) : y < n :=
  G.lt _ _ (M.adj _ _ h1)
theorem Mt.lt' {n : Nat} {lk : Nat → List Nat} {p : Nat → Option Nat} (G : Gr n lk) (M : Mt lk p) {x y : Nat} (h1 : p x = some y) : x < n :=
  M.lt G (M.sym _ _ h1)

/-- the invariant of a search, with a ghost depth d -/
structure Inv (n : Nat) (lk : Nat → List Nat) (p : Nat → Option Nat) (r : Nat) (d : Nat → Nat) (st : St) : Prop where
  ro : r ∈ st.o
  rp : p r = none
  ol : ∀ x ∈ st.o, x < n
  ond : st.o.Nodup
  ho : ∀ x ∈ st.o, st.h x ∈ st.o
  hh : ∀ x ∈ st.o, st.h (st.h x) = st.h x
  hx : ∀ x, x ∉ st.o → st.h x = x
  cls : ∀ x ∈ st.o, x ≠ st.h x → ∃ y z, p x = some y ∧ y ∈ st.o ∧ st.h y = st.h x ∧ st.b y = some z ∧ z ∈ st.o ∧ st.h z = st.h x
  bas : ∀ x ∈ st.o, x = st.h x → x ≠ r → ∃ y z, p x = some y ∧ y ∉ st.o ∧ st.b y = some z ∧ z ∈ st.o ∧ d (st.h z) < d x
  bad : ∀ y z, st.b y = some z → z ∈ lk y
  binn : ∀ y z, st.b y = some z → ∃ x ∈ st.o, p y = some x
  tr : ∀ x ∈ st.o, ∃ l, Tr p st.b r x l ∧ Good p l

section
variable {n : Nat} {lk : Nat → List Nat} {p : Nat → Option Nat} {r : Nat} {d : Nat → Nat} {st : St}

theorem Inv.hr (I : Inv n lk p r d st) : st.h r = r := by
  apply Classical.byContradiction
  intro hne
  obtain ⟨y, z, hp, _⟩ := I.cls r I.ro fun e => hne e.symm
  rw [I.rp] at hp
  cases hp

theorem Inv.step (I : Inv n lk p r d st) {x : Nat} (hx : x ∈ st.o) (hr : x ≠ r) :
    ∃ y z, p x = some y ∧ st.b y = some z ∧ z ∈ st.o ∧ d (st.h z) ≤ d (st.h x) ∧ (st.h z = st.h x ∨ x = st.h x ∧ d (st.h z) < d (st.h x)) := by
  by_cases e : x = st.h x
  · obtain ⟨y, z, h1, h2, h3, h4, h5⟩ := I.bas x hx e hr
    rw [e] at h5
    exact ⟨y, z, h1, h3, h4, Nat.le_of_lt h5, .inr ⟨e, h5⟩⟩
  · obtain ⟨y, z, h1, h2, h3, h4, h5, h6⟩ := I.cls x hx e
    exact ⟨y, z, h1, h4, h5, by rw [h6]; exact Nat.le_refl _, .inl h6⟩

theorem Inv.step' (I : Inv n lk p r d st) {x y z : Nat} (hx : x ∈ st.o) (hp : p x = some y) (hb : st.b y = some z) :
    z ∈ st.o ∧ d (st.h z) ≤ d (st.h x) ∧ (st.h z = st.h x ∨ x = st.h x ∧ d (st.h z) < d (st.h x)) := by
  have hr : x ≠ r := by
    intro e
    rw [e, I.rp] at hp
    cases hp
  obtain ⟨y', z', h1, h2, h3⟩ := I.step hx hr
  have e := Option.some.inj (hp.symm.trans h1)
  subst e
  have e := Option.some.inj (hb.symm.trans h2)
  subst e
  exact h3

theorem Inv.tr_o (I : Inv n lk p r d st) {x : Nat} {l : List Nat} (t : Tr p st.b r x l) (hx : x ∈ st.o) : ∀ a ∈ l, a ∈ st.o := by
  induction t with
  | root => intro a ha; have e : a = r := by simpa using ha
            rw [e]; exact hx
  | step hp hb t ih =>
    intro a ha
    rcases List.mem_cons.mp ha with e | h
    · rw [e]; exact hx
    · exact ih (I.step' hx hp hb).1 a h

theorem Inv.tr_d (I : Inv n lk p r d st) {x : Nat} {l : List Nat} (t : Tr p st.b r x l) (hx : x ∈ st.o) : ∀ a ∈ l, d (st.h a) ≤ d (st.h x) := by
  induction t with
  | root => intro a ha; have e : a = r := by simpa using ha
            rw [e]; exact Nat.le_refl _
  | step hp hb t ih =>
    intro a ha
    rcases List.mem_cons.mp ha with e | h
    · rw [e]; exact Nat.le_refl _
    · have s := I.step' hx hp hb
      exact Nat.le_trans (ih s.1 a h) s.2.1

/-- the trace passes the head, and until then stays in the class -/
theorem Inv.tr_base (I : Inv n lk p r d st) {x : Nat} {l : List Nat} (t : Tr p st.b r x l) (hx : x ∈ st.o) :
    ∃ l1, Tr p st.b r (st.h x) l1 ∧ l1.length ≤ l.length ∧ (∀ a ∈ l, st.h a = st.h x ∨ a ∈ l1) ∧ (∀ a ∈ l1, a ∈ l) := by
  induction t with
  | root => exact ⟨[r], by rw [I.hr]; exact .root, Nat.le_refl _, fun a h => .inr h, fun a h => h⟩
  | @step x y z l hp hb t ih =>
    by_cases e : x = st.h x
    · exact ⟨x :: l, by rw [← e]; exact .step hp hb t, Nat.le_refl _, fun a h => .inr h, fun a h => h⟩
    · have s := I.step' hx hp hb
      have ez : st.h z = st.h x := by
        rcases s.2.2 with h | h
        · exact h
        · exact absurd h.1 e
      obtain ⟨l1, h1, h2, h3, h4⟩ := ih s.1
      refine ⟨l1, by rw [← ez]; exact h1, by simp; omega, fun a ha => ?_, fun a ha => List.mem_cons_of_mem _ (h4 a ha)⟩
      rcases List.mem_cons.mp ha with e | h
      · rw [e]; exact .inl rfl
      · rw [← ez]; exact h3 a h

theorem Inv.anc_some (G : Gr n lk) (M : Mt lk p) (I : Inv n lk p r d st) : ∀ (k : Nat) (x : Nat) (l : List Nat), x ∈ st.o → Tr p st.b r x l → l.length ≤ k →
    ∃ A, ancL n p st.h st.b k (st.h x) = some A ∧ (∀ B ∈ A, B ∈ st.o ∧ st.h B = B ∧ B ∈ l) ∧ (∀ a ∈ l, st.h a ∈ A) ∧
      A.Pairwise (fun B B' => d B' < d B) := by
  intro k
  induction k with
  | zero =>
    intro x l hx t hl
    cases t <;> simp at hl
  | succ k ih =>
    intro x l hx t hl
    obtain ⟨l1, t1, h1, h2, h3⟩ := I.tr_base t hx
    have hB := I.ho x hx
    have hBn := I.ol _ hB
    have hBB := I.hh x hx
    generalize eB : st.h x = B at *
    cases t1 with
    | root =>
      refine ⟨[r], ?_, ?_, ?_, by simp⟩
      · simp [ancL, rd_lt hBn, I.rp]
      · intro C hC
        have e : C = r := by simpa using hC
        subst e
        exact ⟨hB, hBB, h3 _ (by simp)⟩
      · intro a ha
        rcases h2 a ha with h | h
        · rw [h]; simp
        · have e : a = r := by simpa using h
          rw [e, I.hr]; simp
    | @step _ y z l2 hp hb t2 =>
      have s := I.step' hB hp hb
      have hr : B ≠ r := by
        intro e
        rw [e, I.rp] at hp
        cases hp
      obtain ⟨y', z', q1, q2, q3, q4, q5⟩ := I.bas B hB hBB.symm hr
      have e := Option.some.inj (hp.symm.trans q1)
      subst e
      have e := Option.some.inj (hb.symm.trans q3)
      subst e
      have hl2 : l2.length ≤ k := by simp at h1; omega
      obtain ⟨A, a1, a2, a3, a4⟩ := ih z l2 q4 t2 hl2
      refine ⟨B :: A, ?_, ?_, ?_, ?_⟩
      · simp [ancL, rd_lt hBn, hp, rd_lt (M.lt G hp), hb, rd_lt (I.ol _ q4), a1]
      · intro C hC
        rcases List.mem_cons.mp hC with e | h
        · rw [e]
          exact ⟨hB, hBB, h3 _ (by simp)⟩
        · obtain ⟨c1, c2, c3⟩ := a2 C h
          exact ⟨c1, c2, h3 _ (by simp [c3])⟩
      · intro a ha
        rcases h2 a ha with h | h
        · rw [h]; simp
        · rcases List.mem_cons.mp h with e | h
          · rw [e, hBB]; simp
          · exact List.mem_cons_of_mem _ (a3 a h)
      · refine List.pairwise_cons.mpr ⟨fun C hC => ?_, a4⟩
        obtain ⟨c1, c2, c3⟩ := a2 C hC
        have := I.tr_d t2 q4 C c3
        rw [c2] at this
        omega

theorem find_first {A : List Nat} {d : Nat → Nat} {q : Nat → Bool} (hp : A.Pairwise (fun B B' => d B' < d B)) {x : Nat} (hx : x ∈ A) (hq : q x = true) :
    ∃ c, A.find? q = some c ∧ c ∈ A ∧ q c = true ∧ ∀ B ∈ A, q B = true → d B ≤ d c := by
  induction A with
  | nil => cases hx
  | cons a A ih =>
    obtain ⟨h1, h2⟩ := List.pairwise_cons.mp hp
    by_cases ha : q a = true
    · refine ⟨a, by simp [ha], by simp, ha, fun B hB _ => ?_⟩
      rcases List.mem_cons.mp hB with e | h
      · rw [e]; exact Nat.le_refl _
      · exact Nat.le_of_lt (h1 B h)
    · have hx' : x ∈ A := by
        rcases List.mem_cons.mp hx with e | h
        · rw [e] at hq; exact absurd hq ha
        · exact h
      obtain ⟨c, c1, c2, c3, c4⟩ := ih h2 hx'
      refine ⟨c, by simp [ha, c1], List.mem_cons_of_mem _ c2, c3, fun B hB hqB => ?_⟩
      rcases List.mem_cons.mp hB with e | h
      · rw [e] at hqB; exact absurd hqB ha
      · exact c4 B h hqB

/-- a Nodup list below n has at most n items -/
theorem len_le : ∀ (n : Nat) (l : List Nat), l.Nodup → (∀ x ∈ l, x < n) → l.length ≤ n := by
  intro n
  induction n with
  | zero =>
    intro l _ h
    cases l with
    | nil => simp
    | cons a l => exact absurd (h a (by simp)) (by omega)
  | succ n ih =>
    intro l hd h
    have h2 := ih (l.erase n) (hd.erase n) fun x hx => by
      have h3 := (hd.mem_erase_iff).mp hx
      have := h x h3.2
      omega
    rw [List.length_erase] at h2
    split at h2 <;> omega

structure MeetOk (p : Nat → Option Nat) (r : Nat) (d : Nat → Nat) (st : St) (u w c : Nat) (lu lw : List Nat) : Prop where
  co : c ∈ st.o
  hc : st.h c = c
  cu : c ∈ lu
  cw : c ∈ lw
  sep : ∀ a ∈ lu, ∀ a' ∈ lw, st.h a = st.h a' → d (st.h a) ≤ d c

theorem Inv.tr_len (I : Inv n lk p r d st) {x : Nat} {l : List Nat} (t : Tr p st.b r x l) (hx : x ∈ st.o) (g : Good p l) : l.length ≤ n :=
  len_le n l g.1 fun a ha => I.ol _ (I.tr_o t hx a ha)

theorem Inv.meet (G : Gr n lk) (M : Mt lk p) (I : Inv n lk p r d st) {u w : Nat} {lu lw : List Nat} (hu : u ∈ st.o) (hw : w ∈ st.o)
    (tu : Tr p st.b r u lu) (gu : Good p lu) (tw : Tr p st.b r w lw) (gw : Good p lw) :
    ∃ c, meeting n p st u w = some c ∧ MeetOk p r d st u w c lu lw := by
  have ll1 := I.tr_len tu hu gu
  have ll2 := I.tr_len tw hw gw
  obtain ⟨A, a1, a2, a3, a4⟩ := I.anc_some G M (n + 1) u lu hu tu (by omega)
  obtain ⟨A', b1, b2, b3, b4⟩ := I.anc_some G M (n + 1) w lw hw tw (by omega)
  have r1 := a3 r tu.rmem
  have r2 := b3 r tw.rmem
  obtain ⟨c, c1, c2, c3, c4⟩ := find_first (q := fun c => decide (c ∈ A)) b4 r2 (by simp [r1])
  have c3 : c ∈ A := by simpa using c3
  refine ⟨c, by simp [meeting, anc, rd_lt (I.ol _ hu), rd_lt (I.ol _ hw), a1, b1, c1], (b2 c c2).1, (b2 c c2).2.1, (a2 c c3).2.2, (b2 c c2).2.2, ?_⟩
  intro a ha a' ha' e
  exact c4 _ (by rw [e]; exact b3 a' ha') (by simpa using a3 a ha)

/-- what mark does -/
structure MarkOk (lk : Nat → List Nat) (p : Nat → Option Nat) (r : Nat) (d : Nat → Nat) (st : St) (c child : Nat) (l : List Nat) (bc : Nat → Option Nat)
    (vs ins : List Nat) (b' : Nat → Option Nat) : Prop where
  sub : ∀ v ∈ vs, v ∈ l
  hv : ∀ v ∈ vs, d c < d (st.h v)
  nc : ∀ v ∈ vs, st.h v ≠ c
  par : ∀ v ∈ vs, ∃ y, p v = some y
  rest : ∀ a ∈ l, a ∈ vs ∨ d (st.h a) ≤ d c
  same : ∀ y, y ∉ vs → b' y = bc y
  ins_ : ∀ t, t ∈ ins ↔ ∃ v ∈ vs, t = st.h v ∨ ∃ y, p v = some y ∧ t = st.h y
  edge : ∀ v ∈ vs, ∃ q, b' v = some q ∧ q ∈ lk v ∧ (q = child ∨ ∃ v' ∈ vs, p v' = some q)
  nxt : ∀ v ∈ vs, ∀ y z, p v = some y → st.b y = some z → z ∈ vs ∨ st.h z = c
  tr : ∀ bf : Nat → Option Nat, (∀ v ∈ vs, bf v = b' v) → ∀ L, Tr p bf r child L → ∀ v ∈ vs, ∀ s, p v = some s →
    ∃ m, Tr p bf r s (m ++ L) ∧ (∀ a ∈ m, ∃ v' ∈ vs, p v' = some a) ∧ m.Nodup ∧ (∀ a ∈ m, ∀ v', p v' = some a → v' ∈ vs)
  hd : (∀ x l', l = x :: l' → st.h x = c ∨ x ∈ vs)
end
end Cherry
namespace Cherry
section
variable {n : Nat} {lk : Nat → List Nat} {p : Nat → Option Nat} {r : Nat} {d : Nat → Nat} {st : St}

theorem Inv.mark (G : Gr n lk) (M : Mt lk p) (I : Inv n lk p r d st) {c : Nat} (hc : st.h c = c) :
    ∀ (k x child : Nat) (l ins0 : List Nat) (bc : Nat → Option Nat), x ∈ st.o → Tr p st.b r x l → Good p l → l.length ≤ k → (∃ a ∈ l, st.h a = c) →
      (∀ a ∈ l, ∀ y, p a = some y → bc y = st.b y) → child ∈ lk x →
      ∃ vs ins b', markL n p st.h c k x child ins0 bc = some (ins0 ++ ins, b') ∧ MarkOk lk p r d st c child l bc vs ins b' := by
  intro k
  induction k with
  | zero =>
    intro x child l ins0 bc hx t g hl
    cases t <;> simp at hl
  | succ k ih =>
    intro x child l ins0 bc hx t g hl hex hbc hch
    by_cases e : st.h x = c
    · refine ⟨[], [], bc, by simp [markL, rd_lt (I.ol _ hx), e], by simp, by simp, by simp, by simp, ?_, by simp, by simp, by simp, by simp, by simp, ?_⟩
      · intro a ha
        have := I.tr_d t hx a ha
        rw [e] at this
        exact .inr this
      · intro x' l' el
        cases t <;> (cases el; exact .inl e)
    · cases t with
      | root =>
        obtain ⟨a, ha, ea⟩ := hex
        have e' := List.mem_singleton.mp ha
        rw [e'] at ea
        exact absurd ea e
      | @step _ y z l' hp hb t =>
        have s := I.step' hx hp hb
        have hex' : ∃ a ∈ l', st.h a = c := by
          obtain ⟨a, ha, ea⟩ := hex
          rcases List.mem_cons.mp ha with e' | h
          · rw [e'] at ea; exact absurd ea e
          · exact ⟨a, h, ea⟩
        have hyx : y ≠ x := by
          intro e'
          rw [e'] at hp
          exact M.irr G hp
        have hbc' : ∀ a ∈ l', ∀ y', p a = some y' → fu bc x (some child) y' = st.b y' := by
          intro a ha y' hy'
          have hne : y' ≠ x := by
            intro e'
            rw [e'] at hy'
            exact g.2 a (List.mem_cons_of_mem _ ha) x (by simp) hy'
          rw [fu_ne _ _ hne]
          exact hbc a (List.mem_cons_of_mem _ ha) y' hy'
        have hz : fu bc x (some child) y = some z := by
          rw [fu_ne _ _ hyx, hbc x (by simp) y hp, hb]
        have hlk : y ∈ lk z := G.sym _ _ (I.bad _ _ hb)
        have hl2 : l'.length ≤ k := by simp at hl; omega
        obtain ⟨vs, ins, b', m1, m2⟩ := ih z y l' (ins0 ++ [st.h x, st.h y]) (fu bc x (some child)) s.1 t g.tail hl2 hex' hbc' hlk
        have hyn := M.lt G hp
        have hxn := I.ol _ hx
        have hxvs : x ∉ vs := fun h => (List.nodup_cons.mp g.1).1 (m2.sub x h)
        have hzd : st.h z = c ∨ z ∈ vs := by
          cases t with
          | root => exact m2.hd _ _ rfl
          | step => exact m2.hd _ _ rfl
        have hdx : d c < d (st.h x) := by
          rcases hzd with h | h
          · rcases s.2.2 with h' | h'
            · rw [h'] at h; exact absurd h e
            · rw [h] at h'; rw [← h'.1]; rw [← h'.1] at h'; exact h'.2
          · exact Nat.lt_of_lt_of_le (m2.hv z h) s.2.1
        have hbx : b' x = some child := by
          rw [m2.same x hxvs, fu_same]
        refine ⟨x :: vs, st.h x :: st.h y :: ins, b', ?_, ?_⟩
        · simp [markL, rd_lt hxn, rd_lt hyn, e, hp, hz, m1]
        · constructor
          · intro v hv
            rcases List.mem_cons.mp hv with e' | h
            · rw [e']; simp
            · exact List.mem_cons_of_mem _ (m2.sub v h)
          · intro v hv
            rcases List.mem_cons.mp hv with e' | h
            · rw [e']; exact hdx
            · exact m2.hv v h
          · intro v hv
            rcases List.mem_cons.mp hv with e' | h
            · rw [e']; exact e
            · exact m2.nc v h
          · intro v hv
            rcases List.mem_cons.mp hv with e' | h
            · rw [e']; exact ⟨y, hp⟩
            · exact m2.par v h
          · intro a ha
            rcases List.mem_cons.mp ha with e' | h
            · rw [e']; exact .inl (by simp)
            · rcases m2.rest a h with h | h
              · exact .inl (List.mem_cons_of_mem _ h)
              · exact .inr h
          · intro y' hy'
            rw [m2.same y' fun h => hy' (List.mem_cons_of_mem _ h), fu_ne _ _ fun h => hy' (by rw [h]; simp)]
          · intro t'
            constructor
            · intro ht
              rcases List.mem_cons.mp ht with e' | h
              · exact ⟨x, by simp, .inl e'⟩
              · rcases List.mem_cons.mp h with e' | h
                · exact ⟨x, by simp, .inr ⟨y, hp, e'⟩⟩
                · obtain ⟨v, hv, q⟩ := (m2.ins_ t').mp h
                  exact ⟨v, List.mem_cons_of_mem _ hv, q⟩
            · rintro ⟨v, hv, q⟩
              rcases List.mem_cons.mp hv with e' | h
              · subst e'
                rcases q with q | ⟨y', q1, q2⟩
                · rw [q]; simp
                · have e' := Option.some.inj (hp.symm.trans q1)
                  subst e'
                  rw [q2]; simp
              · exact List.mem_cons_of_mem _ (List.mem_cons_of_mem _ ((m2.ins_ t').mpr ⟨v, h, q⟩))
          · intro v hv
            rcases List.mem_cons.mp hv with e' | h
            · subst e'
              exact ⟨child, hbx, hch, .inl rfl⟩
            · obtain ⟨q, q1, q2, q3⟩ := m2.edge v h
              refine ⟨q, q1, q2, ?_⟩
              rcases q3 with q3 | ⟨v', q3, q4⟩
              · exact .inr ⟨x, by simp, by rw [q3]; exact hp⟩
              · exact .inr ⟨v', List.mem_cons_of_mem _ q3, q4⟩
          · intro v hv y' z' h1 h2
            rcases List.mem_cons.mp hv with e' | h
            · subst e'
              have e' := Option.some.inj (hp.symm.trans h1)
              subst e'
              have e' := Option.some.inj (hb.symm.trans h2)
              subst e'
              rcases hzd with h | h
              · exact .inr h
              · exact .inl (List.mem_cons_of_mem _ h)
            · rcases m2.nxt v h y' z' h1 h2 with h | h
              · exact .inl (List.mem_cons_of_mem _ h)
              · exact .inr h
          · intro bf hbf L tL v hv s' hs'
            have hbfx : bf x = some child := by rw [hbf x (by simp), hbx]
            have ty : Tr p bf r y (y :: L) := .step (M.sym _ _ hp) hbfx tL
            rcases List.mem_cons.mp hv with e' | h
            · subst e'
              have e' := Option.some.inj (hp.symm.trans hs')
              subst e'
              refine ⟨[y], ty, ?_, by simp, ?_⟩
              · intro a ha
                have e' : a = y := by simpa using ha
                rw [e']; exact ⟨v, by simp, hp⟩
              · intro a ha v' hv'
                have e' : a = y := by simpa using ha
                rw [e'] at hv'
                rw [M.inj hv' hp]; simp
            · obtain ⟨m, q1, q2, q3, q4⟩ := m2.tr bf (fun v hv => hbf v (List.mem_cons_of_mem _ hv)) (y :: L) ty v h s' hs'
              refine ⟨m ++ [y], by simpa using q1, ?_, ?_, ?_⟩
              · intro a ha
                rcases List.mem_append.mp ha with h | h
                · obtain ⟨v', h1, h2⟩ := q2 a h
                  exact ⟨v', List.mem_cons_of_mem _ h1, h2⟩
                · have e' : a = y := by simpa using h
                  rw [e']; exact ⟨x, by simp, hp⟩
              · refine List.nodup_append.mpr ⟨q3, by simp, ?_⟩
                intro a ha b hb' e'
                have e2 : b = y := by simpa using hb'
                rw [e', e2] at ha
                exact hxvs (q4 y ha x hp)
              · intro a ha v' hv'
                rcases List.mem_append.mp ha with h | h
                · exact List.mem_cons_of_mem _ (q4 a h v' hv')
                · have e' : a = y := by simpa using h
                  rw [e'] at hv'
                  rw [M.inj hv' hp]; simp
          · intro x' l2 el
            cases el
            exact .inr (by simp)

/-- the two marks of a shrink, joined -/
structure Shr (lk : Nat → List Nat) (p : Nat → Option Nat) (r : Nat) (d : Nat → Nat) (st : St) (c u w : Nat) (vs1 vs2 ins : List Nat) (b' : Nat → Option Nat) : Prop where
  hv : ∀ v, v ∈ vs1 ∨ v ∈ vs2 → v ∈ st.o ∧ d c < d (st.h v) ∧ st.h v ≠ c ∧ ∃ y, p v = some y
  same : ∀ y, y ∉ vs1 → y ∉ vs2 → b' y = st.b y
  ins_ : ∀ t, t ∈ ins ↔ ∃ v, (v ∈ vs1 ∨ v ∈ vs2) ∧ (t = st.h v ∨ ∃ y, p v = some y ∧ t = st.h y)
  edge : ∀ v, v ∈ vs1 ∨ v ∈ vs2 → ∃ q, b' v = some q ∧ q ∈ lk v ∧ (q = u ∨ q = w ∨ ∃ v', (v' ∈ vs1 ∨ v' ∈ vs2) ∧ p v' = some q)
  nxt : ∀ v, v ∈ vs1 ∨ v ∈ vs2 → ∀ y z, p v = some y → st.b y = some z → (z ∈ vs1 ∨ z ∈ vs2) ∨ st.h z = c
  uu : st.h u = c ∨ u ∈ vs1
  ww : st.h w = c ∨ w ∈ vs2
  trs : ∀ s, (∃ v, (v ∈ vs1 ∨ v ∈ vs2) ∧ p v = some s) → ∃ l, Tr p b' r s l ∧ Good p l
  tro : ∀ x ∈ st.o, ∃ l, Tr p b' r x l ∧ Good p l
  base : ∀ v, v ∈ vs1 ∨ v ∈ vs2 → (st.h v ∈ vs1 ∨ st.h v ∈ vs2)

theorem Inv.shr (G : Gr n lk) (M : Mt lk p) (I : Inv n lk p r d st) {u w : Nat} (hu : u ∈ st.o) (hw : w ∈ st.o) (hlk : w ∈ lk u) :
    ∃ c vs1 vs2 r1 r2, meeting n p st u w = some c ∧ c ∈ st.o ∧ st.h c = c ∧
      markL n p st.h c (n + 1) u w [] st.b = some r1 ∧ markL n p st.h c (n + 1) w u r1.1 r1.2 = some r2 ∧
      Shr lk p r d st c u w vs1 vs2 r2.1 r2.2 := by
  obtain ⟨lu, tu, gu⟩ := I.tr u hu
  obtain ⟨lw, tw, gw⟩ := I.tr w hw
  obtain ⟨c, hmeet, MO⟩ := I.meet G M hu hw tu gu tw gw
  have ll1 := I.tr_len tu hu gu
  have ll2 := I.tr_len tw hw gw
  obtain ⟨vs1, ins1, b1, e1, K1⟩ := I.mark G M MO.hc (n + 1) u w lu [] st.b hu tu gu (by omega) ⟨c, MO.cu, MO.hc⟩ (fun _ _ _ _ => rfl) hlk
  have ou := I.tr_o tu hu
  have ow := I.tr_o tw hw
  -- a in lu, p a in st.o : same head
  have same_h : ∀ a ∈ st.o, ∀ y ∈ st.o, p a = some y → st.h y = st.h a := by
    intro a ha y hy hp
    by_cases e : a = st.h a
    · by_cases er : a = r
      · rw [er, I.rp] at hp; cases hp
      · obtain ⟨y', z, q1, q2, _⟩ := I.bas a ha e er
        have e' := Option.some.inj (hp.symm.trans q1)
        rw [e'] at hy
        exact absurd hy q2
    · obtain ⟨y', z, q1, q2, q3, _⟩ := I.cls a ha e
      have e' := Option.some.inj (hp.symm.trans q1)
      rw [e']; exact q3
  -- nodes marked on one side do not lie on the other side, nor do their partners
  have x1 : ∀ v ∈ vs1, v ∉ lw := fun v hv h => by
    have h1 := K1.hv v hv
    have h2 := MO.sep v (K1.sub v hv) v h rfl
    omega
  have x1p : ∀ a ∈ lw, ∀ y, p a = some y → y ∉ vs1 := fun a ha y hp hv => by
    have h1 := K1.hv y hv
    have h2 := MO.sep y (K1.sub y hv) a ha (same_h a (ow a ha) y (ou y (K1.sub y hv)) hp)
    omega
  obtain ⟨vs2, ins2, b2, e2, K2⟩ := I.mark G M MO.hc (n + 1) w u lw ins1 b1 hw tw gw (by omega) ⟨c, MO.cw, MO.hc⟩
    (fun a ha y hp => K1.same y (x1p a ha y hp)) (G.sym _ _ hlk)
  have x2 : ∀ v ∈ vs2, v ∉ lu := fun v hv h => by
    have h1 := K2.hv v hv
    have h2 := MO.sep v h v (K2.sub v hv) rfl
    omega
  have x2p : ∀ a ∈ lu, ∀ y, p a = some y → y ∉ vs2 := fun a ha y hp hv => by
    have h1 := K2.hv y hv
    have h2 := MO.sep a ha y (K2.sub y hv) (same_h a (ou a ha) y (ow y (K2.sub y hv)) hp).symm
    rw [same_h a (ou a ha) y (ow y (K2.sub y hv)) hp] at h1
    omega
  have x1s : ∀ a ∈ lu, ∀ y, p a = some y → y ∉ vs1 := fun a ha y hp hv => gu.2 a ha y (K1.sub y hv) hp
  have x2s : ∀ a ∈ lw, ∀ y, p a = some y → y ∉ vs2 := fun a ha y hp hv => gw.2 a ha y (K2.sub y hv) hp
  have b2_1 : ∀ v ∈ vs1, b2 v = b1 v := fun v hv => K2.same v fun h => x2 v h (K1.sub v hv)
  have b2_same : ∀ y, y ∉ vs1 → y ∉ vs2 → b2 y = st.b y := fun y h1 h2 => (K2.same y h2).trans (K1.same y h1)
  have tu' : Tr p b2 r u lu := tu.congr fun a ha y hp => b2_same y (x1s a ha y hp) (x2p a ha y hp)
  have tw' : Tr p b2 r w lw := tw.congr fun a ha y hp => b2_same y (x1p a ha y hp) (x2s a ha y hp)
  have vin : ∀ v, v ∈ vs1 ∨ v ∈ vs2 → v ∈ lu ∨ v ∈ lw := fun v hv => hv.elim (fun h => .inl (K1.sub v h)) (fun h => .inr (K2.sub v h))
  -- the new traces of the partners of marked nodes
  have zig : ∀ s, (∃ v, (v ∈ vs1 ∨ v ∈ vs2) ∧ p v = some s) → ∃ l, Tr p b2 r s l ∧ Good p l ∧
      ∀ a ∈ l, (∃ v, (v ∈ vs1 ∨ v ∈ vs2) ∧ p v = some a) ∨ a ∈ lu ∨ a ∈ lw := by
    rintro s ⟨v, hv, hp⟩
    rcases hv with hv | hv
    · obtain ⟨m, m1, m2, m3, m4⟩ := K1.tr b2 b2_1 lw tw' v hv s hp
      refine ⟨m ++ lw, m1, ⟨List.nodup_append.mpr ⟨m3, gw.1, ?_⟩, ?_⟩, ?_⟩
      · intro a ha a' ha' e
        obtain ⟨v', h1, h2⟩ := m2 a ha
        rw [e] at h2
        exact x1p a' ha' v' (M.sym _ _ h2) h1
      · intro a ha a' ha' e
        rcases List.mem_append.mp ha with h | h
        · obtain ⟨v', h1, h2⟩ := m2 a h
          have e' : v' = a' := Option.some.inj ((M.sym _ _ h2).symm.trans e)
          rw [e'] at h1
          rcases List.mem_append.mp ha' with h' | h'
          · obtain ⟨v'', h3, h4⟩ := m2 a' h'
            exact gu.2 v'' (K1.sub _ h3) a' (K1.sub _ h1) h4
          · exact x1 _ h1 h'
        · rcases List.mem_append.mp ha' with h' | h'
          · obtain ⟨v', h1, h2⟩ := m2 a' h'
            have e' : v' = a := Option.some.inj ((M.sym _ _ h2).symm.trans (M.sym _ _ e))
            rw [e'] at h1
            exact x1 _ h1 h
          · exact gw.2 a h a' h' e
      · intro a ha
        rcases List.mem_append.mp ha with h | h
        · obtain ⟨v', h1, h2⟩ := m2 a h
          exact .inl ⟨v', .inl h1, h2⟩
        · exact .inr (.inr h)
    · obtain ⟨m, m1, m2, m3, m4⟩ := K2.tr b2 (fun _ _ => rfl) lu tu' v hv s hp
      refine ⟨m ++ lu, m1, ⟨List.nodup_append.mpr ⟨m3, gu.1, ?_⟩, ?_⟩, ?_⟩
      · intro a ha a' ha' e
        obtain ⟨v', h1, h2⟩ := m2 a ha
        rw [e] at h2
        exact x2p a' ha' v' (M.sym _ _ h2) h1
      · intro a ha a' ha' e
        rcases List.mem_append.mp ha with h | h
        · obtain ⟨v', h1, h2⟩ := m2 a h
          have e' : v' = a' := Option.some.inj ((M.sym _ _ h2).symm.trans e)
          rw [e'] at h1
          rcases List.mem_append.mp ha' with h' | h'
          · obtain ⟨v'', h3, h4⟩ := m2 a' h'
            exact gw.2 v'' (K2.sub _ h3) a' (K2.sub _ h1) h4
          · exact x2 _ h1 h'
        · rcases List.mem_append.mp ha' with h' | h'
          · obtain ⟨v', h1, h2⟩ := m2 a' h'
            have e' : v' = a := Option.some.inj ((M.sym _ _ h2).symm.trans (M.sym _ _ e))
            rw [e'] at h1
            exact x2 _ h1 h
          · exact gu.2 a h a' h' e
      · intro a ha
        rcases List.mem_append.mp ha with h | h
        · obtain ⟨v', h1, h2⟩ := m2 a h
          exact .inl ⟨v', .inr h1, h2⟩
        · exact .inr (.inl h)
  -- facts for the induction
  have H2 : ∀ a, a ∈ lu ∨ a ∈ lw → ∀ v, v ∈ vs1 ∨ v ∈ vs2 → p v ≠ some a := by
    intro a ha v hv e
    have e' := M.sym _ _ e
    rcases ha with ha | ha <;> rcases hv with hv | hv
    · exact x1s a ha v e' hv
    · exact x2p a ha v e' hv
    · exact x1p a ha v e' hv
    · exact x2s a ha v e' hv
  have vo : ∀ v, v ∈ vs1 ∨ v ∈ vs2 → v ∈ st.o := fun v hv => (vin v hv).elim (ou v) (ow v)
  have vd : ∀ v, v ∈ vs1 ∨ v ∈ vs2 → d c < d (st.h v) := fun v hv => hv.elim (K1.hv v) (K2.hv v)
  have rest : ∀ a, a ∈ lu ∨ a ∈ lw → (a ∈ vs1 ∨ a ∈ vs2) ∨ d (st.h a) ≤ d c := fun a ha => ha.elim
    (fun h => (K1.rest a h).elim (fun h => .inl (.inl h)) .inr) (fun h => (K2.rest a h).elim (fun h => .inl (.inr h)) .inr)
  have wo : ∀ a, a ∈ lu ∨ a ∈ lw → a ∈ st.o := fun a ha => ha.elim (ou a) (ow a)
  have suff : ∀ a, a ∈ lu ∨ a ∈ lw → ∀ l, Tr p st.b r a l → ∀ q ∈ l, q ∈ lu ∨ q ∈ lw := by
    intro a ha l t q hq
    rcases ha with ha | ha
    · obtain ⟨l', t', h1, _⟩ := tu.suffix ha
      rw [t.det I.rp t'] at hq
      exact .inl (h1 q hq)
    · obtain ⟨l', t', h1, _⟩ := tw.suffix ha
      rw [t.det I.rp t'] at hq
      exact .inr (h1 q hq)
  have claim : ∀ x l, Tr p st.b r x l → x ∈ st.o → Good p l → ∃ l', Tr p b2 r x l' ∧ Good p l' ∧
      (((∀ a ∈ l, ∀ v, v ∈ vs1 ∨ v ∈ vs2 → p v ≠ some a) ∧ l' = l) ∨
       ((∃ s ∈ l, ∃ v, (v ∈ vs1 ∨ v ∈ vs2) ∧ p v = some s) ∧
         ∀ a ∈ l', a ∈ l ∨ (∃ v, (v ∈ vs1 ∨ v ∈ vs2) ∧ p v = some a) ∨ a ∈ lu ∨ a ∈ lw)) := by
    intro x l t
    induction t with
    | root =>
      intro hx g
      refine ⟨[r], .root, g, .inl ⟨?_, rfl⟩⟩
      intro a ha v hv e
      have ea : a = r := by simpa using ha
      rw [ea] at e
      have := M.sym _ _ e
      rw [I.rp] at this
      cases this
    | @step x y z l hp hb t ih =>
      intro hx g
      by_cases hs : ∃ v, (v ∈ vs1 ∨ v ∈ vs2) ∧ p v = some x
      · obtain ⟨l', z1, z2, z3⟩ := zig x hs
        exact ⟨l', z1, z2, .inr ⟨⟨x, by simp, hs⟩, fun a ha => .inr (z3 a ha)⟩⟩
      · have hy1 : y ∉ vs1 := fun h => hs ⟨y, .inl h, M.sym _ _ hp⟩
        have hy2 : y ∉ vs2 := fun h => hs ⟨y, .inr h, M.sym _ _ hp⟩
        have hb' : b2 y = some z := by rw [b2_same y hy1 hy2, hb]
        obtain ⟨l', t', g', alt⟩ := ih (I.step' hx hp hb).1 g.tail
        rcases alt with ⟨a1, a2⟩ | ⟨a1, a2⟩
        · subst a2
          refine ⟨x :: l', .step hp hb' t', g, .inl ⟨?_, rfl⟩⟩
          intro a ha v hv e
          rcases List.mem_cons.mp ha with e' | h
          · rw [e'] at e; exact hs ⟨v, hv, e⟩
          · exact a1 a h v hv e
        · -- x on lu or lw is impossible
          have xno : ¬ (x ∈ lu ∨ x ∈ lw) := by
            intro h
            obtain ⟨s, s1, v, s2, s3⟩ := a1
            exact H2 s (suff x h _ (.step hp hb t) s (List.mem_cons_of_mem _ s1)) v s2 s3
          have hxl' : x ∉ l' := by
            intro h
            rcases a2 x h with h | h | h
            · exact (List.nodup_cons.mp g.1).1 h
            · exact hs h
            · exact xno h
          have hyl' : y ∉ l' := by
            intro h
            rcases a2 y h with h | h | h
            · exact g.2 x (by simp) y (List.mem_cons_of_mem _ h) hp
            · obtain ⟨v, h1, h2⟩ := h
              have e := M.inj h2 hp
              rw [← e] at xno
              exact xno (vin v h1)
            · rcases rest y h with h1 | h1
              · exact hs ⟨y, h1, M.sym _ _ hp⟩
              · have e := same_h x hx y (wo y h) hp
                rw [e] at h1
                obtain ⟨s, s1, v, s2, s3⟩ := a1
                have so := I.tr_o t (I.step' hx hp hb).1 s s1
                have e2 := same_h v (vo v s2) s so s3
                have e3 := vd v s2
                rw [← e2] at e3
                have e4 := I.tr_d (.step hp hb t) hx s (List.mem_cons_of_mem _ s1)
                omega
          refine ⟨x :: l', .step hp hb' t', ⟨List.nodup_cons.mpr ⟨hxl', g'.1⟩, ?_⟩, .inr ⟨?_, ?_⟩⟩
          · intro a ha a' ha' e
            rcases List.mem_cons.mp ha with h | h
            · rw [h] at e
              have e' := Option.some.inj (hp.symm.trans e)
              rcases List.mem_cons.mp ha' with h' | h'
              · rw [e', h'] at hp
                exact M.irr G hp
              · rw [← e'] at h'
                exact hyl' h'
            · rcases List.mem_cons.mp ha' with h' | h'
              · rw [h'] at e
                have e' := Option.some.inj (hp.symm.trans (M.sym _ _ e))
                rw [← e'] at h
                exact hyl' h
              · exact g'.2 a h a' h' e
          · obtain ⟨s, s1, s2⟩ := a1
            exact ⟨s, List.mem_cons_of_mem _ s1, s2⟩
          · intro a ha
            rcases List.mem_cons.mp ha with h | h
            · rw [h]; exact .inl (by simp)
            · rcases a2 a h with h | h
              · exact .inl (List.mem_cons_of_mem _ h)
              · exact .inr h
  refine ⟨c, vs1, vs2, ([] ++ ins1, b1), (ins1 ++ ins2, b2), hmeet, MO.co, MO.hc, e1, e2, ?_⟩
  constructor
  · intro v hv
    exact ⟨vo v hv, vd v hv, hv.elim (K1.nc v) (K2.nc v), hv.elim (K1.par v) (K2.par v)⟩
  · exact b2_same
  · intro t
    rw [List.mem_append, K1.ins_ t, K2.ins_ t]
    constructor
    · rintro (⟨v, h1, h2⟩ | ⟨v, h1, h2⟩)
      · exact ⟨v, .inl h1, h2⟩
      · exact ⟨v, .inr h1, h2⟩
    · rintro ⟨v, h1 | h1, h2⟩
      · exact .inl ⟨v, h1, h2⟩
      · exact .inr ⟨v, h1, h2⟩
  · rintro v (hv | hv)
    · obtain ⟨q, q1, q2, q3⟩ := K1.edge v hv
      refine ⟨q, (b2_1 v hv).trans q1, q2, ?_⟩
      rcases q3 with q3 | ⟨v', q3, q4⟩
      · exact .inr (.inl q3)
      · exact .inr (.inr ⟨v', .inl q3, q4⟩)
    · obtain ⟨q, q1, q2, q3⟩ := K2.edge v hv
      refine ⟨q, q1, q2, ?_⟩
      rcases q3 with q3 | ⟨v', q3, q4⟩
      · exact .inl q3
      · exact .inr (.inr ⟨v', .inr q3, q4⟩)
  · rintro v (hv | hv) y z hp hb
    · rcases K1.nxt v hv y z hp hb with h | h
      · exact .inl (.inl h)
      · exact .inr h
    · rcases K2.nxt v hv y z hp hb with h | h
      · exact .inl (.inr h)
      · exact .inr h
  · cases tu with
    | root => exact K1.hd _ _ rfl
    | step => exact K1.hd _ _ rfl
  · cases tw with
    | root => exact K2.hd _ _ rfl
    | step => exact K2.hd _ _ rfl
  · intro s hs
    obtain ⟨l, z1, z2, _⟩ := zig s hs
    exact ⟨l, z1, z2⟩
  · intro x hx
    obtain ⟨l, t, g⟩ := I.tr x hx
    obtain ⟨l', t', g', _⟩ := claim x l t hx g
    exact ⟨l', t', g'⟩
  · -- the base of a marked node's class is marked
    intro v hv
    have hcase : ∀ l x, Tr p st.b r x l → x ∈ st.o → (∀ a ∈ l, d c < d (st.h a) → a ∈ l → True) → st.h x ∈ l := by
      intro l x t hx _
      obtain ⟨l1, t1, _, _, h4⟩ := I.tr_base t hx
      exact h4 _ t1.mem
    rcases hv with hv | hv
    · obtain ⟨l', t', h1, _⟩ := tu.suffix (K1.sub v hv)
      have h2 := h1 _ (hcase l' v t' (vo v (.inl hv)) (fun _ _ _ _ => trivial))
      rcases K1.rest _ h2 with h | h
      · exact .inl h
      · have := K1.hv v hv
        rw [I.hh v (vo v (.inl hv))] at h
        omega
    · obtain ⟨l', t', h1, _⟩ := tw.suffix (K2.sub v hv)
      have h2 := h1 _ (hcase l' v t' (vo v (.inr hv)) (fun _ _ _ _ => trivial))
      rcases K2.rest _ h2 with h | h
      · exact .inr h
      · have := K2.hv v hv
        rw [I.hh v (vo v (.inr hv))] at h
        omega
end
end Cherry
namespace Cherry

theorem shrink_fold (c : Nat) (ins : List Nat) : ∀ (L : List Nat) (h : Nat → Nat) (o : List Nat), L.Nodup →
    (∀ x, (L.foldl (shrinkStep c ins) (h, o)).1 x = if x ∈ L ∧ h x ∈ ins then c else h x) ∧
    (L.foldl (shrinkStep c ins) (h, o)).2 = o ++ L.filter (fun x => decide (h x ∈ ins ∧ x ∉ o)) := by
  intro L
  induction L with
  | nil => intro h o _; simp
  | cons a L ih =>
    intro h o hd
    obtain ⟨ha, hL⟩ := List.nodup_cons.mp hd
    by_cases hi : h a ∈ ins
    · by_cases ho : a ∈ o
      · obtain ⟨i1, i2⟩ := ih (fu h a c) o hL
        have e : shrinkStep c ins (h, o) a = (fu h a c, o) := by simp [shrinkStep, hi, ho]
        rw [List.foldl_cons, e]
        refine ⟨fun x => ?_, ?_⟩
        · rw [i1]
          by_cases hx : x = a
          · subst hx; simp [ha, hi, fu]
          · simp [fu, hx]
        · rw [i2, List.filter_cons]
          simp only [hi, ho, not_true_eq_false, and_false, decide_false, Bool.false_eq_true, if_false]
          congr 1
          apply List.filter_congr
          intro x hx
          have : x ≠ a := fun e => ha (e ▸ hx)
          simp [fu, this]
      · obtain ⟨i1, i2⟩ := ih (fu h a c) (o ++ [a]) hL
        have e : shrinkStep c ins (h, o) a = (fu h a c, o ++ [a]) := by simp [shrinkStep, hi, ho]
        rw [List.foldl_cons, e]
        refine ⟨fun x => ?_, ?_⟩
        · rw [i1]
          by_cases hx : x = a
          · subst hx; simp [ha, hi, fu]
          · simp [fu, hx]
        · rw [i2, List.filter_cons]
          simp only [hi, ho, not_false_eq_true, and_true, decide_true, if_true]
          rw [List.append_assoc]
          simp only [List.singleton_append]
          congr 2
          apply List.filter_congr
          intro x hx
          have : x ≠ a := fun e => ha (e ▸ hx)
          simp [fu, this]
    · obtain ⟨i1, i2⟩ := ih h o hL
      have e : shrinkStep c ins (h, o) a = (h, o) := by simp [shrinkStep, hi]
      rw [List.foldl_cons, e]
      refine ⟨fun x => ?_, ?_⟩
      · rw [i1]
        by_cases hx : x = a
        · subst hx; simp [hi]
        · simp [hx]
      · rw [i2, List.filter_cons]
        simp [hi]

/-- a later state of the same search -/
structure Ext (st st' : St) : Prop where
  pre : ∃ e, st'.o = st.o ++ e
  hm : ∀ x z, st.h x = st.h z → st'.h x = st'.h z
  bm : ∀ y, st.b y ≠ none → st'.b y ≠ none

theorem Ext.refl (st : St) : Ext st st := ⟨⟨[], by simp⟩, fun _ _ h => h, fun _ h => h⟩
theorem Ext.trans {a b c : St} (h1 : Ext a b) (h2 : Ext b c) : Ext a c := by
  obtain ⟨⟨e1, p1⟩, q1, r1⟩ := h1
  obtain ⟨⟨e2, p2⟩, q2, r2⟩ := h2
  exact ⟨⟨e1 ++ e2, by rw [p2, p1, List.append_assoc]⟩, fun x z h => q2 x z (q1 x z h), fun y h => r2 y (r1 y h)⟩
theorem Ext.mem {st st' : St} (h : Ext st st') {x : Nat} (hx : x ∈ st.o) : x ∈ st'.o := by
  obtain ⟨⟨e, p⟩, _⟩ := h
  rw [p]; exact List.mem_append_left _ hx

section
variable {n : Nat} {lk : Nat → List Nat} {p : Nat → Option Nat} {r : Nat} {d : Nat → Nat} {st : St}

theorem Inv.same_h (I : Inv n lk p r d st) : ∀ a ∈ st.o, ∀ y ∈ st.o, p a = some y → st.h y = st.h a := by
  intro a ha y hy hp
  by_cases e : a = st.h a
  · by_cases er : a = r
    · rw [er, I.rp] at hp; cases hp
    · obtain ⟨y', z, q1, q2, _⟩ := I.bas a ha e er
      have e' := Option.some.inj (hp.symm.trans q1)
      rw [e'] at hy
      exact absurd hy q2
  · obtain ⟨y', z, q1, q2, q3, _⟩ := I.cls a ha e
    have e' := Option.some.inj (hp.symm.trans q1)
    rw [e']; exact q3

theorem Inv.shrink (G : Gr n lk) (M : Mt lk p) (I : Inv n lk p r d st) {u w : Nat} (hu : u ∈ st.o) (hw : w ∈ st.o) (hlk : w ∈ lk u) :
    ∃ st', Cherry.shrink n p st u w = some st' ∧ Inv n lk p r d st' ∧ Ext st st' ∧ st'.h u = st'.h w := by
  obtain ⟨c, vs1, vs2, r1, r2, e1, hco, hcc, e2, e3, S⟩ := I.shr G M hu hw hlk
  obtain ⟨f1, f2⟩ := shrink_fold c r2.1 (List.range n) st.h st.o List.nodup_range
  refine ⟨⟨((List.range n).foldl (shrinkStep c r2.1) (st.h, st.o)).1, r2.2, ((List.range n).foldl (shrinkStep c r2.1) (st.h, st.o)).2⟩, ?_, ?_⟩
  · simp [Cherry.shrink, e1, e2, e3]
  generalize ((List.range n).foldl (shrinkStep c r2.1) (st.h, st.o)).1 = h' at *
  generalize ((List.range n).foldl (shrinkStep c r2.1) (st.h, st.o)).2 = o' at *
  generalize r2.2 = b' at *
  generalize r2.1 = ins at *
  clear e1 e2 e3 r1 r2
  have hn : ∀ x, st.h x ∈ ins → x < n := by
    intro x hx
    by_cases hxo : x ∈ st.o
    · exact I.ol x hxo
    · rw [I.hx x hxo] at hx
      obtain ⟨v, hv, q⟩ := (S.ins_ x).mp hx
      rcases q with q | ⟨y, q1, q2⟩
      · rw [q]; exact I.ol _ (I.ho v (S.hv v hv).1)
      · by_cases hy : y ∈ st.o
        · rw [q2]; exact I.ol _ (I.ho y hy)
        · rw [q2, I.hx y hy]; exact M.lt G q1
  have eh : ∀ x, h' x = if st.h x ∈ ins then c else st.h x := by
    intro x
    rw [f1 x]
    by_cases hx : st.h x ∈ ins
    · simp [hx, hn x hx]
    · simp [hx]
  have hin : ∀ {x}, st.h x ∈ ins → h' x = c := fun {x} h => by rw [eh, if_pos h]
  have hout : ∀ {x}, st.h x ∉ ins → h' x = st.h x := fun {x} h => by rw [eh, if_neg h]
  have mo : ∀ x, x ∈ o' ↔ x ∈ st.o ∨ st.h x ∈ ins := by
    intro x
    rw [f2, List.mem_append, List.mem_filter]
    constructor
    · rintro (h | ⟨h1, h2⟩)
      · exact .inl h
      · exact .inr (by simpa using (of_decide_eq_true h2).1)
    · rintro (h | h)
      · exact .inl h
      · by_cases hx : x ∈ st.o
        · exact .inl hx
        · exact .inr ⟨by simpa using hn x h, by simp [h, hx]⟩
  -- heads in ins: of marked classes, or the partners that were inner
  have V : ∀ v, v ∈ vs1 ∨ v ∈ vs2 → st.h v ∈ ins := fun v hv => (S.ins_ _).mpr ⟨v, hv, .inl rfl⟩
  have W : ∀ v, v ∈ vs1 ∨ v ∈ vs2 → ∀ y, p v = some y → st.h y ∈ ins := fun v hv y hp => (S.ins_ _).mpr ⟨v, hv, .inr ⟨y, hp, rfl⟩⟩
  -- newly outer: partner of a marked base
  have newo : ∀ x, x ∉ st.o → st.h x ∈ ins → ∃ v, (v ∈ vs1 ∨ v ∈ vs2) ∧ p v = some x := by
    intro x hx h
    rw [I.hx x hx] at h
    obtain ⟨v, hv, q⟩ := (S.ins_ x).mp h
    rcases q with q | ⟨y, q1, q2⟩
    · rw [q] at hx
      exact absurd (I.ho v (S.hv v hv).1) hx
    · by_cases hy : y ∈ st.o
      · rw [q2] at hx
        exact absurd (I.ho y hy) hx
      · rw [I.hx y hy] at q2
        rw [q2]
        exact ⟨v, hv, q1⟩
  -- a head in ins of an outer node is a marked base
  have insb : ∀ x ∈ st.o, st.h x ∈ ins → st.h x ∈ vs1 ∨ st.h x ∈ vs2 := by
    intro x hx h
    obtain ⟨v, hv, q⟩ := (S.ins_ _).mp h
    rcases q with q | ⟨y, q1, q2⟩
    · rw [q]; exact S.base v hv
    · by_cases hy : y ∈ st.o
      · rw [q2, I.same_h v (S.hv v hv).1 y hy q1]
        exact S.base v hv
      · rw [I.hx y hy] at q2
        rw [← q2] at hy
        exact absurd (I.ho x hx) hy
  have cni : c ∉ ins := by
    intro h
    have h1 := insb c hco (by rw [hcc]; exact h)
    rw [hcc] at h1
    exact (S.hv c h1).2.2.1 hcc
  have hc' : h' c = c := by rw [eh]; split <;> simp [hcc]
  have vb : ∀ y, y ∉ st.o → b' y = st.b y := fun y hy => S.same y (fun h => hy (S.hv y (.inl h)).1) (fun h => hy (S.hv y (.inr h)).1)
  have so : ∀ x, x ∈ st.o → x ∈ o' := fun x h => (mo x).mpr (.inl h)
  have hq : ∀ q v, (v ∈ vs1 ∨ v ∈ vs2) → (q = u ∨ q = w ∨ ∃ v', (v' ∈ vs1 ∨ v' ∈ vs2) ∧ p v' = some q) → q ∈ o' ∧ h' q = c := by
    intro q v hv h
    rcases h with h | h | ⟨v', h1, h2⟩
    · rw [h]
      refine ⟨so _ hu, ?_⟩
      rcases S.uu with h | h
      · rw [eh, h, if_neg cni]
      · exact hin (V u (.inl h))
    · rw [h]
      refine ⟨so _ hw, ?_⟩
      rcases S.ww with h | h
      · rw [eh, h, if_neg cni]
      · exact hin (V w (.inr h))
    · exact ⟨(mo q).mpr (.inr (W v' h1 q h2)), hin (W v' h1 q h2)⟩
  have hou : ∀ x ∈ st.o, h' x ∈ o' := by
    intro x hx
    by_cases h : st.h x ∈ ins
    · rw [hin h]; exact so c hco
    · rw [hout h]; exact so _ (I.ho x hx)
  refine ⟨?_, ?_, ?_⟩
  · constructor
    · exact so r I.ro
    · exact I.rp
    · intro x hx
      rcases (mo x).mp hx with h | h
      · exact I.ol x h
      · exact hn x h
    · show o'.Nodup
      rw [f2]
      refine List.nodup_append.mpr ⟨I.ond, List.Pairwise.filter _ List.nodup_range, ?_⟩
      intro a ha b hb e
      have := of_decide_eq_true (List.mem_filter.mp hb).2
      rw [← e] at this
      exact this.2 ha
    · intro x hx
      rcases (mo x).mp hx with h | h
      · exact hou x h
      · show h' x ∈ o'
        rw [hin h]; exact so c hco
    · intro x hx
      show h' (h' x) = h' x
      by_cases h : st.h x ∈ ins
      · rw [hin h]; exact hc'
      · rw [hout h, eh]
        have hxo : x ∈ st.o := ((mo x).mp hx).resolve_right h
        rw [I.hh x hxo, if_neg h]
    · intro x hx
      show h' x = x
      have h1 : x ∉ st.o := fun h => hx (so x h)
      have h2 : st.h x ∉ ins := fun h => hx ((mo x).mpr (.inr h))
      rw [hout h2, I.hx x h1]
    · -- cls
      intro x hx hne
      show ∃ y z, p x = some y ∧ y ∈ o' ∧ h' y = h' x ∧ b' y = some z ∧ z ∈ o' ∧ h' z = h' x
      have hne : x ≠ h' x := hne
      by_cases hps : ∃ v, (v ∈ vs1 ∨ v ∈ vs2) ∧ p v = some x
      · obtain ⟨v, hv, hp⟩ := hps
        obtain ⟨q, q1, q2, q3⟩ := S.edge v hv
        have h3 := hq q v hv q3
        have hxc : h' x = c := hin (W v hv x hp)
        exact ⟨v, q, M.sym _ _ hp, so v (S.hv v hv).1, by rw [hxc]; exact hin (V v hv), q1, h3.1, by rw [hxc]; exact h3.2⟩
      · have hxo : x ∈ st.o := by
          apply Classical.byContradiction
          intro h
          exact hps (newo x h (((mo x).mp hx).resolve_left h))
        have keep : ∀ y, p x = some y → b' y = st.b y := fun y hp =>
          S.same y (fun h => hps ⟨y, .inl h, M.sym _ _ hp⟩) (fun h => hps ⟨y, .inr h, M.sym _ _ hp⟩)
        by_cases hb : x = st.h x
        · -- x is a base that was merged
          have hmi : st.h x ∈ ins := by
            apply Classical.byContradiction
            intro h
            rw [hout h] at hne
            exact hne hb
          have hv := insb x hxo hmi
          rw [← hb] at hv
          have hr : x ≠ r := by
            intro e
            obtain ⟨_, _, _, y, hy⟩ := S.hv x hv
            rw [e, I.rp] at hy
            cases hy
          obtain ⟨y, z, q1, q2, q3, q4, q5⟩ := I.bas x hxo hb hr
          have hxc : h' x = c := hin hmi
          refine ⟨y, z, q1, (mo y).mpr (.inr (W x hv y q1)), by rw [hxc]; exact hin (W x hv y q1), by rw [keep y q1]; exact q3, so z q4, ?_⟩
          rw [hxc]
          rcases S.nxt x hv y z q1 q3 with h | h
          · exact hin (V z h)
          · rw [eh, h, if_neg cni]
        · obtain ⟨y, z, q1, q2, q3, q4, q5, q6⟩ := I.cls x hxo hb
          exact ⟨y, z, q1, so y q2, by rw [eh y, eh x, q3], by rw [keep y q1]; exact q4, so z q5, by rw [eh z, eh x, q6]⟩
    · -- bas
      intro x hx hb hr
      show ∃ y z, p x = some y ∧ y ∉ o' ∧ b' y = some z ∧ z ∈ o' ∧ d (h' z) < d x
      have hb : x = h' x := hb
      have hxo : x ∈ st.o := by
        apply Classical.byContradiction
        intro h
        have hi := ((mo x).mp hx).resolve_left h
        rw [hin hi] at hb
        rw [hb] at h
        exact h hco
      have hbo : x = st.h x := by
        by_cases h : st.h x ∈ ins
        · rw [hin h] at hb
          rw [hb]; exact hcc.symm
        · rw [hout h] at hb; exact hb
      have hni : st.h x ∉ ins := by
        intro h
        have e := hb
        rw [hin h] at e
        have hv := insb x hxo h
        rw [← hbo, e] at hv
        exact (S.hv c hv).2.2.1 hcc
      obtain ⟨y, z, q1, q2, q3, q4, q5⟩ := I.bas x hxo hbo hr
      have hyo' : y ∉ o' := by
        intro h
        have hi := ((mo y).mp h).resolve_left q2
        obtain ⟨v, hv, hp⟩ := newo y q2 hi
        have e := M.inj hp q1
        rw [e] at hv
        exact hni (V x hv)
      refine ⟨y, z, q1, hyo', by rw [vb y q2]; exact q3, so z q4, ?_⟩
      by_cases h : st.h z ∈ ins
      · rw [hin h]
        obtain ⟨v, hv, q⟩ := (S.ins_ _).mp h
        have hzv := insb z q4 h
        have := (S.hv _ hzv).2.1
        rw [I.hh z q4] at this
        omega
      · rw [hout h]; exact q5
    · -- bad
      intro y z h
      have h : b' y = some z := h
      by_cases hv : y ∈ vs1 ∨ y ∈ vs2
      · obtain ⟨q, q1, q2, _⟩ := S.edge y hv
        have e := Option.some.inj (h.symm.trans q1)
        rw [e]; exact q2
      · rw [S.same y (fun h => hv (.inl h)) (fun h => hv (.inr h))] at h
        exact I.bad y z h
    · intro y z h
      have h : b' y = some z := h
      show ∃ x ∈ o', p y = some x
      by_cases hv : y ∈ vs1 ∨ y ∈ vs2
      · obtain ⟨_, _, _, x, hx⟩ := S.hv y hv
        exact ⟨x, (mo x).mpr (.inr (W y hv x hx)), hx⟩
      · rw [S.same y (fun h => hv (.inl h)) (fun h => hv (.inr h))] at h
        obtain ⟨x, h1, h2⟩ := I.binn y z h
        exact ⟨x, so x h1, h2⟩
    · intro x hx
      rcases (mo x).mp hx with h | h
      · exact S.tro x h
      · by_cases hxo : x ∈ st.o
        · exact S.tro x hxo
        · exact S.trs x (newo x hxo h)
  · refine ⟨⟨_, f2⟩, fun x z h => by show h' x = h' z; rw [eh, eh, h], fun y h => ?_⟩
    show b' y ≠ none
    by_cases hv : y ∈ vs1 ∨ y ∈ vs2
    · obtain ⟨q, q1, _⟩ := S.edge y hv
      rw [q1]; simp
    · rw [S.same y (fun h => hv (.inl h)) (fun h => hv (.inr h))]
      exact h
  · show h' u = h' w
    have hu' : h' u = c := by
      rcases S.uu with h | h
      · rw [eh, h, if_neg cni]
      · exact hin (V u (.inl h))
    have hw' : h' w = c := by
      rcases S.ww with h | h
      · rw [eh, h, if_neg cni]
      · exact hin (V w (.inr h))
    rw [hu', hw']

/-- what has been looked along -/
structure Scd (lk : Nat → List Nat) (st : St) (Sc : Nat → Nat → Prop) : Prop where
  s0 : ∀ x z, Sc x z → x ∈ st.o
  s1 : ∀ x z, Sc x z → z ∈ st.o ∨ st.b z ≠ none
  s2 : ∀ x z, Sc x z → Sc z x → st.h x = st.h z

theorem Scd.ext {st' : St} {Sc : Nat → Nat → Prop} (S : Scd lk st Sc) (E : Ext st st') : Scd lk st' Sc :=
  ⟨fun x z h => E.mem (S.s0 x z h), fun x z h => (S.s1 x z h).elim (fun h => .inl (E.mem h)) (fun h => .inr (E.bm z h)), fun x z h1 h2 => E.hm _ _ (S.s2 x z h1 h2)⟩

def adds (Sc : Nat → Nat → Prop) (x z : Nat) : Nat → Nat → Prop := fun a b => Sc a b ∨ (a = x ∧ b = z)

theorem Scd.add {Sc : Nat → Nat → Prop} (S : Scd lk st Sc) {x z : Nat} (hx : x ∈ st.o) (h1 : z ∈ st.o ∨ st.b z ≠ none) (h2 : z ∈ st.o → st.h x = st.h z) : Scd lk st (adds Sc x z) := by
  constructor
  · rintro a b (h | ⟨h, _⟩)
    · exact S.s0 a b h
    · rw [h]; exact hx
  · rintro a b (h | ⟨_, h⟩)
    · exact S.s1 a b h
    · rw [h]; exact h1
  · rintro a b (h | ⟨ea, eb⟩) h'
    · rcases h' with h' | ⟨eb, ea⟩
      · exact S.s2 a b h h'
      · subst ea; subst eb
        exact (h2 (S.s0 _ _ h)).symm
    · subst ea; subst eb
      rcases h' with h' | ⟨e1, e2⟩
      · exact h2 (S.s0 _ _ h')
      · rw [e1]

/-- an augmenting edge has been found -/
structure Fnd (p : Nat → Option Nat) (r : Nat) (st st' : St) (x z : Nat) : Prop where
  pz : p z = none
  zo : z ∉ st.o
  xo : x ∈ st.o
  bz : st'.b z = some x
  zx : z ≠ x
  oo : st'.o = st.o
  tr : ∃ l, Tr p st'.b r x l ∧ Good p l ∧ ∀ a ∈ l, a ∈ st.o
  bb : ∀ y q, st'.b y = some q → y ≠ z → st.b y = some q

theorem Inv.reach (G : Gr n lk) (M : Mt lk p) (I : Inv n lk p r d st) {Sc : Nat → Nat → Prop} (S : Scd lk st Sc) {x z : Nat} (hx : x ∈ st.o) (hz : z ∈ lk x) :
    (∃ d' st', Cherry.reach n p st x z = some (false, st') ∧ Inv n lk p r d' st' ∧ Ext st st' ∧ Scd lk st' (adds Sc x z)) ∨
    (∃ st', Cherry.reach n p st x z = some (true, st') ∧ Fnd p r st st' x z ∧ z ∈ lk x) := by
  have hxn := I.ol x hx
  have hzn := G.lt _ _ hz
  by_cases h1 : st.h x = st.h z ∨ p x = some z
  · refine .inl ⟨d, st, by simp [Cherry.reach, rd_lt hxn, rd_lt hzn, h1], I, Ext.refl _, ?_⟩
    rcases h1 with h1 | h1
    · refine S.add hx ?_ (fun _ => h1)
      by_cases hzo : z ∈ st.o
      · exact .inl hzo
      · rw [I.hx z hzo] at h1
        rw [← h1] at hzo
        exact absurd (I.ho x hx) hzo
    · refine S.add hx ?_ (fun hzo => (I.same_h x hx z hzo h1).symm)
      have hr : x ≠ r := by
        intro e
        rw [e, I.rp] at h1
        cases h1
      obtain ⟨y, q, q1, q2, _⟩ := I.step hx hr
      have e := Option.some.inj (h1.symm.trans q1)
      rw [e, q2]; exact .inr (by simp)
  · by_cases h2 : z ∈ st.o
    · obtain ⟨st', s1, s2, s3, s4⟩ := I.shrink G M hx h2 hz
      exact .inl ⟨d, st', by simp [Cherry.reach, rd_lt hxn, rd_lt hzn, h1, h2, s1], s2, s3, (S.ext s3).add (s3.mem hx) (.inl (s3.mem h2)) (fun _ => s4)⟩
    · cases h3 : st.b z with
      | some q =>
        exact .inl ⟨d, st, by simp [Cherry.reach, rd_lt hxn, rd_lt hzn, h2, h3], I, Ext.refl _, S.add hx (.inr (by rw [h3]; simp)) (fun h => absurd h h2)⟩
      | none =>
        have hzx : z ≠ x := fun e => h2 (e ▸ hx)
        have keep : ∀ a ∈ st.o, ∀ y, p a = some y → fu st.b z (some x) y = st.b y := by
          intro a ha y hy
          have hr : a ≠ r := by
            intro e
            rw [e, I.rp] at hy
            cases hy
          obtain ⟨y', q, q1, q2, _⟩ := I.step ha hr
          have e := Option.some.inj (hy.symm.trans q1)
          subst e
          have hne : y ≠ z := by
            intro e
            rw [e, h3] at q2
            cases q2
          exact fu_ne _ _ hne
        cases h4 : p z with
        | none =>
          refine .inr ⟨⟨st.h, fu st.b z (some x), st.o⟩, by simp [Cherry.reach, rd_lt hxn, rd_lt hzn, h1, h2, h3, h4], ⟨h4, h2, hx, fu_same _ _ _, hzx, rfl, ?_, ?_⟩, hz⟩
          · obtain ⟨l, t, g⟩ := I.tr x hx
            have lo := I.tr_o t hx
            exact ⟨l, t.congr fun a ha y hy => keep a (lo a ha) y hy, g, lo⟩
          · intro y q h hne
            have h : fu st.b z (some x) y = some q := h
            rw [fu_ne _ _ hne] at h
            exact h
        | some t =>
          have hto : t ∉ st.o := by
            intro h
            have hp := M.sym _ _ h4
            have hr : t ≠ r := by
              intro e
              rw [e, I.rp] at hp
              cases hp
            obtain ⟨y', q, q1, q2, _⟩ := I.step h hr
            have e := Option.some.inj (hp.symm.trans q1)
            rw [← e, h3] at q2
            cases q2
          have hpt := M.sym _ _ h4
          have htr : t ≠ r := fun e => hto (e ▸ I.ro)
          have htz : t ≠ z := by
            intro e
            rw [e] at h4
            exact M.irr G h4
          have E : Ext st ⟨st.h, fu st.b z (some x), st.o ++ [t]⟩ := by
            refine ⟨⟨[t], rfl⟩, fun _ _ h => h, fun y hy => ?_⟩
            show fu st.b z (some x) y ≠ none
            by_cases e : y = z
            · rw [e, fu_same]; simp
            · rw [fu_ne _ _ e]; exact hy
          refine .inl ⟨fu d t (d (st.h x) + 1), ⟨st.h, fu st.b z (some x), st.o ++ [t]⟩, by simp [Cherry.reach, rd_lt hxn, rd_lt hzn, h1, h2, h3, h4], ?_, E, ?_⟩
          · have mo : ∀ a, a ∈ st.o ++ [t] ↔ a ∈ st.o ∨ a = t := by intro a; simp
            have so : ∀ a, a ∈ st.o → a ∈ st.o ++ [t] := fun a h => List.mem_append_left _ h
            have ne : ∀ a, a ∈ st.o → a ≠ t := fun a h e => hto (e ▸ h)
            constructor
            · exact so r I.ro
            · exact I.rp
            · intro a ha
              rcases (mo a).mp ha with h | h
              · exact I.ol a h
              · rw [h]; exact M.lt G h4
            · refine List.nodup_append.mpr ⟨I.ond, by simp, ?_⟩
              intro a ha b hb e
              have : b = t := by simpa using hb
              exact ne a ha (e.trans this)
            · intro a ha
              rcases (mo a).mp ha with h | h
              · exact so _ (I.ho a h)
              · show st.h a ∈ st.o ++ [t]
                rw [h, I.hx t hto]; simp
            · intro a ha
              rcases (mo a).mp ha with h | h
              · exact I.hh a h
              · show st.h (st.h a) = st.h a
                rw [h, I.hx t hto, I.hx t hto]
            · intro a ha
              exact I.hx a fun h => ha (so a h)
            · intro a ha hne
              rcases (mo a).mp ha with h | h
              · obtain ⟨y, q, q1, q2, q3, q4, q5, q6⟩ := I.cls a h hne
                exact ⟨y, q, q1, so y q2, q3, (keep a h y q1).trans q4, so q q5, q6⟩
              · have hne : a ≠ st.h a := hne
                rw [h, I.hx t hto] at hne
                exact absurd rfl hne
            · intro a ha hb hr
              show ∃ y q, p a = some y ∧ y ∉ st.o ++ [t] ∧ fu st.b z (some x) y = some q ∧ q ∈ st.o ++ [t] ∧ fu d t (d (st.h x) + 1) (st.h q) < fu d t (d (st.h x) + 1) a
              rcases (mo a).mp ha with h | h
              · obtain ⟨y, q, q1, q2, q3, q4, q5⟩ := I.bas a h hb hr
                refine ⟨y, q, q1, ?_, (keep a h y q1).trans q3, so q q4, ?_⟩
                · intro h'
                  rcases (mo y).mp h' with h' | h'
                  · exact q2 h'
                  · rw [h'] at q1
                    have := M.inj q1 h4
                    rw [this] at h
                    exact h2 h
                · rw [fu_ne _ _ (ne _ (I.ho q q4)), fu_ne _ _ (ne a h)]
                  exact q5
              · subst h
                refine ⟨z, x, hpt, ?_, fu_same _ _ _, so x hx, ?_⟩
                · intro h'
                  rcases (mo z).mp h' with h' | h'
                  · exact h2 h'
                  · exact htz h'.symm
                · rw [fu_ne _ _ (ne _ (I.ho x hx)), fu_same]
                  omega
            · intro y q h
              have h : fu st.b z (some x) y = some q := h
              by_cases e : y = z
              · rw [e, fu_same] at h
                have e' := Option.some.inj h
                rw [e, ← e']
                exact G.sym _ _ hz
              · rw [fu_ne _ _ e] at h
                exact I.bad y q h
            · intro y q h
              have h : fu st.b z (some x) y = some q := h
              show ∃ a ∈ st.o ++ [t], p y = some a
              by_cases e : y = z
              · exact ⟨t, by simp, by rw [e]; exact h4⟩
              · rw [fu_ne _ _ e] at h
                obtain ⟨a, h1, h2⟩ := I.binn y q h
                exact ⟨a, so a h1, h2⟩
            · intro a ha
              rcases (mo a).mp ha with h | h
              · obtain ⟨l, tl, g⟩ := I.tr a h
                have lo := I.tr_o tl h
                exact ⟨l, tl.congr fun a ha y hy => keep a (lo a ha) y hy, g⟩
              · subst h
                obtain ⟨l, tl, g⟩ := I.tr x hx
                have lo := I.tr_o tl hx
                refine ⟨a :: l, .step hpt (fu_same _ _ _) (tl.congr fun a ha y hy => keep a (lo a ha) y hy), List.nodup_cons.mpr ⟨fun h => hto (lo _ h), g.1⟩, ?_⟩
                intro b hb c hc e
                rcases List.mem_cons.mp hb with hb | hb
                · rw [hb] at e
                  have e' := Option.some.inj (hpt.symm.trans e)
                  rcases List.mem_cons.mp hc with hc | hc
                  · rw [hc] at e'; exact htz e'.symm
                  · rw [← e'] at hc; exact h2 (lo _ hc)
                · rcases List.mem_cons.mp hc with hc | hc
                  · rw [hc] at e
                    have e' := M.inj e h4
                    rw [e'] at hb
                    exact h2 (lo _ hb)
                  · exact g.2 b hb c hc e
          · exact (S.ext E).add (E.mem hx) (.inr (by show fu st.b z (some x) z ≠ none; rw [fu_same]; simp)) (fun h => by
              rcases List.mem_append.mp h with h | h
              · exact absurd h h2
              · exact absurd (by simpa using h : z = t).symm htz)
end
end Cherry
namespace Cherry
section
variable {n : Nat} {lk : Nat → List Nat} {p : Nat → Option Nat} {r : Nat}

/-- a free node has been found, and the way back -/
structure Found (n : Nat) (lk : Nat → List Nat) (p : Nat → Option Nat) (r t x : Nat) (l : List Nat) (b : Nat → Option Nat) : Prop where
  pt : p t = none
  pr : p r = none
  bt : b t = some x
  tr : Tr p b r x l
  gd : Good p l
  tl : t ∉ l
  ln : ∀ a ∈ l, a < n
  tn : t < n
  xt : x ∈ lk t
  ed : ∀ y q, p y ≠ none → b y = some q → q ∈ lk y

theorem Found.of (G : Gr n lk) {d : Nat → Nat} {st st' : St} {x z : Nat} (I : Inv n lk p r d st) (F : Fnd p r st st' x z) (hz : z ∈ lk x) :
    ∃ l, Found n lk p r z x l st'.b := by
  obtain ⟨l, t, g, lo⟩ := F.tr
  refine ⟨l, F.pz, I.rp, F.bz, t, g, fun h => F.zo (lo z h), fun a ha => I.ol a (lo a ha), G.lt _ _ hz, G.sym _ _ hz, fun y q hy hq => ?_⟩
  exact I.bad y q (F.bb y q hq fun e => hy (e ▸ F.pz))

theorem runFor_ok (G : Gr n lk) (M : Mt lk p) {x : Nat} : ∀ (L : List Nat) (d : Nat → Nat) (st : St) (Sc : Nat → Nat → Prop), Inv n lk p r d st → Scd lk st Sc →
    x ∈ st.o → (∀ z ∈ L, z ∈ lk x) →
    (∃ d' st', runFor n p x L st = some (none, st') ∧ Inv n lk p r d' st' ∧ Ext st st' ∧ Scd lk st' (fun a b => Sc a b ∨ (a = x ∧ b ∈ L))) ∨
    (∃ t st' x' l, runFor n p x L st = some (some t, st') ∧ Found n lk p r t x' l st'.b) := by
  intro L
  induction L with
  | nil =>
    intro d st Sc I S hx hL
    refine .inl ⟨d, st, rfl, I, Ext.refl _, ?_⟩
    have e : (fun a b => Sc a b ∨ (a = x ∧ b ∈ ([] : List Nat))) = Sc := by
      funext a b; simp
    rw [e]; exact S
  | cons z L ih =>
    intro d st Sc I S hx hL
    rcases I.reach G M S hx (hL z (by simp)) with ⟨d', st', e, I', E, S'⟩ | ⟨st', e, F, hz⟩
    · rcases ih d' st' _ I' S' (E.mem hx) (fun a ha => hL a (List.mem_cons_of_mem _ ha)) with ⟨d2, st2, e2, I2, E2, S2⟩ | ⟨t, st2, x', l, e2, F⟩
      · refine .inl ⟨d2, st2, by simp [runFor, e, e2], I2, E.trans E2, ?_⟩
        have e : (fun a b => Sc a b ∨ (a = x ∧ b ∈ z :: L)) = (fun a b => adds Sc x z a b ∨ (a = x ∧ b ∈ L)) := by
          funext a b
          apply propext
          simp only [adds, List.mem_cons]
          constructor
          · rintro (h | ⟨h1, h2 | h2⟩)
            · exact .inl (.inl h)
            · exact .inl (.inr ⟨h1, h2⟩)
            · exact .inr ⟨h1, h2⟩
          · rintro ((h | ⟨h1, h2⟩) | ⟨h1, h2⟩)
            · exact .inl h
            · exact .inr ⟨h1, .inl h2⟩
            · exact .inr ⟨h1, .inr h2⟩
        rw [e]; exact S2
      · exact .inr ⟨t, st2, x', l, by simp [runFor, e, e2], F⟩
    · obtain ⟨l, F'⟩ := Found.of G I F hz
      exact .inr ⟨z, st', x, l, by simp [runFor, e], F'⟩

theorem runL_ok (G : Gr n lk) (M : Mt lk p) : ∀ (k i : Nat) (d : Nat → Nat) (st : St), Inv n lk p r d st → i ≤ st.o.length → n - i < k →
    Scd lk st (fun a b => (∃ j, j < i ∧ st.o[j]? = some a) ∧ b ∈ lk a) →
    (∃ d' st', runL n lk p k i st = some (none, st') ∧ Inv n lk p r d' st' ∧ Scd lk st' (fun a b => a ∈ st'.o ∧ b ∈ lk a)) ∨
    (∃ t st' x' l, runL n lk p k i st = some (some t, st') ∧ Found n lk p r t x' l st'.b) := by
  intro k
  induction k with
  | zero => intro i d st I hi hk; omega
  | succ k ih =>
    intro i d st I hi hk S
    have hlen := len_le n st.o I.ond I.ol
    cases ho : st.o[i]? with
    | none =>
      refine .inl ⟨d, st, by simp [runL, ho], I, ?_⟩
      have hi' : st.o.length ≤ i := List.getElem?_eq_none_iff.mp ho
      have e : (fun a b => a ∈ st.o ∧ b ∈ lk a) = (fun a b => (∃ j, j < i ∧ st.o[j]? = some a) ∧ b ∈ lk a) := by
        funext a b
        apply propext
        constructor
        · rintro ⟨h1, h2⟩
          obtain ⟨j, hj, e⟩ := List.mem_iff_getElem.mp h1
          exact ⟨⟨j, by omega, by rw [List.getElem?_eq_getElem hj, e]⟩, h2⟩
        · rintro ⟨⟨j, _, h1⟩, h2⟩
          exact ⟨List.mem_of_getElem? h1, h2⟩
      rw [e]; exact S
    | some x =>
      have hx := List.mem_of_getElem? ho
      have hi' : i < st.o.length := (List.getElem?_eq_some_iff.mp ho).1
      rcases runFor_ok G M (lk x) d st _ I S hx (fun z h => h) with ⟨d', st', e, I', E, S'⟩ | ⟨t, st', x', l, e, F⟩
      · obtain ⟨⟨ex, epre⟩, _, _⟩ := E
        have hle : st.o.length ≤ st'.o.length := by rw [epre]; simp
        have hget : ∀ j, j < st.o.length → st'.o[j]? = st.o[j]? := by
          intro j hj
          rw [epre, List.getElem?_append_left hj]
        have S2 : Scd lk st' (fun a b => (∃ j, j < i + 1 ∧ st'.o[j]? = some a) ∧ b ∈ lk a) := by
          have e : (fun a b => (∃ j, j < i + 1 ∧ st'.o[j]? = some a) ∧ b ∈ lk a) = (fun a b => ((∃ j, j < i ∧ st.o[j]? = some a) ∧ b ∈ lk a) ∨ (a = x ∧ b ∈ lk x)) := by
            funext a b
            apply propext
            constructor
            · rintro ⟨⟨j, hj, h1⟩, h2⟩
              rw [hget j (by omega)] at h1
              by_cases e : j = i
              · rw [e, ho] at h1
                have e' := Option.some.inj h1
                exact .inr ⟨e'.symm, e' ▸ h2⟩
              · exact .inl ⟨⟨j, by omega, h1⟩, h2⟩
            · rintro (⟨⟨j, hj, h1⟩, h2⟩ | ⟨h1, h2⟩)
              · exact ⟨⟨j, by omega, by rw [hget j (by omega)]; exact h1⟩, h2⟩
              · subst h1
                exact ⟨⟨i, by omega, by rw [hget i hi']; exact ho⟩, h2⟩
          rw [e]; exact S'
        rcases ih (i + 1) d' st' I' (by omega) (by omega) S2 with ⟨d2, st2, e2, I2, S3⟩ | ⟨t, st2, x', l, e2, F⟩
        · exact .inl ⟨d2, st2, by simp [runL, ho, rd_lt (I.ol x hx), e, e2], I2, S3⟩
        · exact .inr ⟨t, st2, x', l, by simp [runL, ho, rd_lt (I.ol x hx), e, e2], F⟩
      · exact .inr ⟨t, st', x', l, by simp [runL, ho, rd_lt (I.ol x hx), e], F⟩

theorem Inv.start (hr : r < n) (hp : p r = none) : Inv n lk p r (fun _ => 0) (st0 r) := by
  have mo : ∀ x, x ∈ (st0 r).o → x = r := fun x h => by simpa [st0] using h
  constructor
  · simp [st0]
  · exact hp
  · intro x h; rw [mo x h]; exact hr
  · simp [st0]
  · intro x h; exact h
  · intro x h; rfl
  · intro x h; rfl
  · intro x h hne; exact absurd rfl hne
  · intro x h _ hne; exact absurd (mo x h) hne
  · intro y z h; cases h
  · intro y z h; cases h
  · intro x h
    rw [mo x h]
    refine ⟨[r], .root, by simp, ?_⟩
    intro a ha c _
    rw [List.mem_singleton.mp ha, hp]; simp

theorem run_ok (G : Gr n lk) (M : Mt lk p) (hr : r < n) (hp : p r = none) :
    (∃ d' st', run n lk p r = some (none, st') ∧ Inv n lk p r d' st' ∧ Scd lk st' (fun a b => a ∈ st'.o ∧ b ∈ lk a)) ∨
    (∃ t st' x' l, run n lk p r = some (some t, st') ∧ Found n lk p r t x' l st'.b) := by
  refine runL_ok G M (n + 1) 0 _ _ (Inv.start hr hp) (by simp) (by omega) ?_
  constructor
  · rintro x z ⟨⟨j, h, _⟩, _⟩; omega
  · rintro x z ⟨⟨j, h, _⟩, _⟩; omega
  · rintro x z ⟨⟨j, h, _⟩, _⟩; omega

/-! ### flipping along a path -/
def pathOf (p : Nat → Option Nat) : Nat → List Nat → List Nat
  | _, [] => []
  | t, x :: l => t :: x :: (match p x with | none => [] | some y => pathOf p y l)

theorem pathL_ok {b : Nat → Option Nat} (hM : ∀ x y, p x = some y → y < n) : ∀ (l : List Nat) (k t x : Nat), Tr p b r x l → p r = none → l.length ≤ k → t < n → b t = some x → (∀ a ∈ l, a < n) →
    pathL n p b k t = some (pathOf p t l) := by
  intro l
  induction l with
  | nil => intro k t x tr; cases tr
  | cons a l ih =>
    intro k t x tr hpr hk ht hb hn
    cases k with
    | zero => simp at hk
    | succ k =>
      cases tr with
      | root => simp [pathL, rd_lt ht, hb, rd_lt (hn r (by simp)), hpr, pathOf]
      | @step _ y z _ hp hbz tr =>
        have hy := hM _ _ hp
        have := ih k y z tr hpr (by simpa using hk) hy hbz (fun a ha => hn a (List.mem_cons_of_mem _ ha))
        simp [pathL, rd_lt ht, hb, rd_lt (hn a (by simp)), hp, pathOf, this]

inductive Pr : List Nat → Nat → Nat → Prop
  | fst (a c : Nat) (l : List Nat) : Pr (a :: c :: l) a c
  | snd (a c : Nat) (l : List Nat) : Pr (a :: c :: l) c a
  | tl (a c : Nat) {l : List Nat} {u v : Nat} (h : Pr l u v) : Pr (a :: c :: l) u v

theorem Pr.symm {l : List Nat} {a c : Nat} (h : Pr l a c) : Pr l c a := by
  induction h with
  | fst a c l => exact .snd a c l
  | snd a c l => exact .fst a c l
  | tl a c _ ih => exact .tl a c ih
theorem Pr.mem {l : List Nat} {a c : Nat} (h : Pr l a c) : a ∈ l := by
  induction h with
  | fst a c l => simp
  | snd a c l => simp
  | tl a c _ ih => simp [ih]

theorem flip_out : ∀ (l : List Nat) (q : Nat → Option Nat) (a : Nat), a ∉ l → flip q l a = q a
  | [], _, _, _ => rfl
  | [_], _, _, _ => rfl
  | x :: c :: l, q, a, h => by
    simp only [List.mem_cons, not_or] at h
    rw [flip, flip_out l _ a h.2.2, fu_ne _ _ h.2.1, fu_ne _ _ h.1]

theorem flip_in {l : List Nat} {a c : Nat} (h : Pr l a c) : ∀ q, l.Nodup → flip q l a = some c := by
  induction h with
  | fst a c l =>
    intro q hd
    simp only [List.nodup_cons, List.mem_cons, not_or] at hd
    rw [flip, flip_out _ _ _ hd.1.2, fu_ne _ _ hd.1.1, fu_same]
  | snd a c l =>
    intro q hd
    simp only [List.nodup_cons, List.mem_cons, not_or] at hd
    rw [flip, flip_out _ _ _ hd.2.1, fu_same]
  | tl a c _ ih =>
    intro q hd
    simp only [List.nodup_cons, List.mem_cons, not_or] at hd
    rw [flip]
    exact ih _ hd.2.2

theorem pathOf_mem {b : Nat → Option Nat} : ∀ (l : List Nat) (t x : Nat), Tr p b r x l → p r = none → ∀ a, a ∈ pathOf p t l ↔ a = t ∨ a ∈ l ∨ ∃ c ∈ l, p c = some a := by
  intro l
  induction l with
  | nil => intro t x tr; cases tr
  | cons x' l ih =>
    intro t x tr hpr a
    cases tr with
    | root => simp [pathOf, hpr]
    | @step _ y z _ hp hb tr =>
      have := ih y z tr hpr a
      simp only [pathOf, hp, List.mem_cons, this]
      constructor
      · rintro (h | h | h | h | ⟨c, h1, h2⟩)
        · exact .inl h
        · exact .inr (.inl (.inl h))
        · exact .inr (.inr ⟨x', .inl rfl, by rw [h]; exact hp⟩)
        · exact .inr (.inl (.inr h))
        · exact .inr (.inr ⟨c, .inr h1, h2⟩)
      · rintro (h | (h | h) | ⟨c, h1 | h1, h2⟩)
        · exact .inl h
        · exact .inr (.inl h)
        · exact .inr (.inr (.inr (.inl h)))
        · rw [h1] at h2
          exact .inr (.inr (.inl (Option.some.inj (h2.symm.trans hp))))
        · exact .inr (.inr (.inr (.inr ⟨c, h1, h2⟩)))

theorem pathOf_nodup (G : Gr n lk) (M : Mt lk p) {b : Nat → Option Nat} : ∀ (l : List Nat) (t x : Nat), Tr p b r x l → p r = none → Good p l → t ∉ l → (∀ c ∈ l, p c ≠ some t) →
    (pathOf p t l).Nodup ∧ ∀ a ∈ pathOf p t l, ∃ c, Pr (pathOf p t l) a c := by
  intro l
  induction l with
  | nil => intro t x tr; cases tr
  | cons x' l ih =>
    intro t x tr hpr g ht ht'
    cases tr with
    | root =>
      have hne : t ≠ r := fun e => ht (by rw [e]; simp)
      simp only [pathOf, hpr]
      refine ⟨by simp [hne], ?_⟩
      intro a ha
      rcases List.mem_cons.mp ha with h | h
      · rw [h]; exact ⟨_, .fst _ _ _⟩
      · rw [List.mem_singleton.mp h]; exact ⟨_, .snd _ _ _⟩
    | @step _ y z _ hp hb tr =>
      have hy1 : y ∉ l := fun h => g.2 x' (by simp) y (List.mem_cons_of_mem _ h) hp
      have hx1 : x' ∉ l := (List.nodup_cons.mp g.1).1
      have hy2 : ∀ c ∈ l, p c ≠ some y := fun c hc e => hx1 (by rw [← M.inj e hp]; exact hc)
      obtain ⟨i1, i2⟩ := ih y z tr hpr g.tail hy1 hy2
      have hm := pathOf_mem l y z tr hpr
      simp only [pathOf, hp]
      refine ⟨?_, ?_⟩
      · refine List.nodup_cons.mpr ⟨?_, List.nodup_cons.mpr ⟨?_, i1⟩⟩
        · intro h
          rcases List.mem_cons.mp h with h | h
          · exact ht (by rw [h]; simp)
          · rcases (hm t).mp h with h | h | ⟨c, h1, h2⟩
            · rw [← h] at hp
              exact ht' x' (by simp) hp
            · exact ht (List.mem_cons_of_mem _ h)
            · exact ht' c (List.mem_cons_of_mem _ h1) h2
        · intro h
          rcases (hm x').mp h with h | h | ⟨c, h1, h2⟩
          · rw [← h] at hp
            exact M.irr G hp
          · exact hx1 h
          · exact g.2 c (List.mem_cons_of_mem _ h1) x' (by simp) h2
      · intro a ha
        rcases List.mem_cons.mp ha with h | h
        · rw [h]; exact ⟨_, .fst _ _ _⟩
        · rcases List.mem_cons.mp h with h | h
          · rw [h]; exact ⟨_, .snd _ _ _⟩
          · obtain ⟨c, hc⟩ := i2 a h
            exact ⟨c, .tl _ _ hc⟩

theorem pathOf_adj (G : Gr n lk) {b : Nat → Option Nat} : ∀ (l : List Nat) (t x : Nat), Tr p b r x l → p r = none → x ∈ lk t → (∀ a ∈ l, ∀ y q, p a = some y → b y = some q → q ∈ lk y) →
    ∀ a c, Pr (pathOf p t l) a c → c ∈ lk a := by
  intro l
  induction l with
  | nil => intro t x tr; cases tr
  | cons x' l ih =>
    intro t x tr hpr hx hed a c hP
    cases tr with
    | root =>
      simp only [pathOf, hpr] at hP
      cases hP with
      | fst => exact hx
      | snd => exact G.sym _ _ hx
      | tl _ _ h => cases h
    | @step _ y z _ hp hb tr =>
      simp only [pathOf, hp] at hP
      cases hP with
      | fst => exact hx
      | snd => exact G.sym _ _ hx
      | tl _ _ h => exact ih y z tr hpr (hed x' (by simp) y z hp hb) (fun a ha => hed a (List.mem_cons_of_mem _ ha)) a c h

theorem flip_ok (G : Gr n lk) (M : Mt lk p) {b : Nat → Option Nat} {t x : Nat} {l : List Nat} (tr : Tr p b r x l) (hr : p r = none) (ht : p t = none) (g : Good p l) (htl : t ∉ l)
    (hx : x ∈ lk t) (hed : ∀ a ∈ l, ∀ y q, p a = some y → b y = some q → q ∈ lk y) :
    Mt lk (flip p (pathOf p t l)) ∧ ∀ a, flip p (pathOf p t l) a ≠ none ↔ p a ≠ none ∨ a = t ∨ a = r := by
  have htp : ∀ c ∈ l, p c ≠ some t := fun c _ e => by
    have := M.sym _ _ e
    rw [ht] at this
    cases this
  obtain ⟨hd, hpr⟩ := pathOf_nodup G M l t x tr hr g htl htp
  have hm := pathOf_mem (p := p) l t x tr hr
  have had := pathOf_adj G l t x tr hr hx hed
  have hclose : ∀ a c, p a = some c → c ∈ pathOf p t l → a ∈ pathOf p t l := by
    intro a c e h
    rcases (hm c).mp h with h | h | ⟨c', h1, h2⟩
    · rw [h] at e
      have := M.sym _ _ e
      rw [ht] at this; cases this
    · exact (hm a).mpr (.inr (.inr ⟨c, h, M.sym _ _ e⟩))
    · exact (hm a).mpr (.inr (.inl (by rw [M.inj e h2]; exact h1)))
  generalize pathOf p t l = L at *
  refine ⟨⟨?_, ?_⟩, ?_⟩
  · intro a c e
    by_cases ha : a ∈ L
    · obtain ⟨c', hc⟩ := hpr a ha
      rw [flip_in hc p hd] at e
      rw [← Option.some.inj e]
      exact flip_in hc.symm p hd
    · rw [flip_out _ _ _ ha] at e
      have hc : c ∉ L := fun h => ha (hclose a c e h)
      rw [flip_out _ _ _ hc]
      exact M.sym _ _ e
  · intro a c e
    by_cases ha : a ∈ L
    · obtain ⟨c', hc⟩ := hpr a ha
      rw [flip_in hc p hd] at e
      rw [← Option.some.inj e]
      exact had _ _ hc
    · rw [flip_out _ _ _ ha] at e
      exact M.adj _ _ e
  · intro a
    by_cases ha : a ∈ L
    · obtain ⟨c', hc⟩ := hpr a ha
      rw [flip_in hc p hd]
      simp only [ne_eq, reduceCtorEq, not_false_eq_true, true_iff]
      rcases (hm a).mp ha with h | h | ⟨c, h1, h2⟩
      · exact .inr (.inl h)
      · by_cases e : p a = none
        · -- a in l without partner is r
          have : ∀ l x, Tr p b r x l → a ∈ l → a = r := by
            intro l x tr
            induction tr with
            | root => intro h; exact List.mem_singleton.mp h
            | step hp _ _ ih =>
              intro h
              rcases List.mem_cons.mp h with h | h
              · rw [h, hp] at e; cases e
              · exact ih h
          exact .inr (.inr (this l x tr h))
        · exact .inl e
      · rw [M.sym _ _ h2]; simp
    · rw [flip_out _ _ _ ha]
      constructor
      · exact .inl
      · rintro (h | h | h)
        · exact h
        · exact absurd ((hm a).mpr (.inl h)) ha
        · exact absurd ((hm a).mpr (.inr (.inl (by rw [h]; exact tr.rmem)))) ha

/-- an augmentation -/
theorem augment_ok (G : Gr n lk) (M : Mt lk p) {t x : Nat} {l : List Nat} {b : Nat → Option Nat} (F : Found n lk p r t x l b) :
    pathL n p b (n + 1) t = some (pathOf p t l) ∧ Mt lk (flip p (pathOf p t l)) ∧ ∀ a, flip p (pathOf p t l) a ≠ none ↔ p a ≠ none ∨ a = t ∨ a = r := by
  have hlen := len_le n l F.gd.1 F.ln
  refine ⟨pathL_ok (fun x y h => M.lt G h) l (n + 1) t x F.tr F.pr (by omega) F.tn F.bt F.ln, ?_⟩
  refine flip_ok G M F.tr F.pr F.pt F.gd F.tl F.xt fun a _ y q hp hb => F.ed y q ?_ hb
  rw [M.sym _ _ hp]; simp

/-- an outer node may be left out in place of the root -/
theorem Inv.swap (G : Gr n lk) (M : Mt lk p) {d : Nat → Nat} {st : St} (I : Inv n lk p r d st) {y : Nat} (hy : y ∈ st.o) :
    ∃ N, Mt lk N ∧ ∀ a, N a ≠ none ↔ (p a ≠ none ∨ a = r) ∧ a ≠ y := by
  obtain ⟨l, tr, g⟩ := I.tr y hy
  cases tr with
  | root =>
    refine ⟨p, M, fun a => ⟨fun h => ⟨.inl h, fun e => h (by rw [e, I.rp])⟩, ?_⟩⟩
    rintro ⟨h | h, h2⟩
    · exact h
    · exact absurd h h2
  | @step _ q z l hp hb tr =>
    have hqy : q ≠ y := by
      intro e
      rw [e] at hp
      exact M.irr G hp
    have hql : q ∉ l := fun h => g.2 y (by simp) q (List.mem_cons_of_mem _ h) hp
    have hyl : y ∉ l := (List.nodup_cons.mp g.1).1
    have hrq : r ≠ q := by
      intro e
      have := M.sym _ _ hp
      rw [← e, I.rp] at this
      cases this
    have hry : r ≠ y := by
      intro e
      rw [← e, I.rp] at hp
      cases hp
    -- the matching without the edge y q
    have hN : ∀ a, (fu (fu p y none) q none) a = if a = y ∨ a = q then none else p a := by
      intro a
      by_cases e1 : a = q
      · simp [e1, fu]
      · by_cases e2 : a = y
        · simp [e2, fu]
        · simp [e1, e2, fu]
    generalize fu (fu p y none) q none = N at *
    have MN : Mt lk N := by
      constructor
      · intro a c e
        rw [hN] at e
        split at e
        · cases e
        · rename_i h
          have e' := M.sym _ _ e
          rw [hN, if_neg]
          · exact e'
          · rintro (h' | h')
            · rw [h'] at e'
              exact h (.inr (Option.some.inj (e'.symm.trans hp)))
            · rw [h'] at e'
              exact h (.inl (Option.some.inj (e'.symm.trans (M.sym _ _ hp))))
      · intro a c e
        rw [hN] at e
        split at e
        · cases e
        · exact M.adj _ _ e
    have hNl : ∀ a ∈ l, N a = p a := by
      intro a ha
      rw [hN, if_neg]
      rintro (h | h)
      · exact hyl (h ▸ ha)
      · exact hql (h ▸ ha)
    have trN : Tr N st.b r z l := by
      have : ∀ l x, Tr p st.b r x l → (∀ a ∈ l, N a = p a) → Tr N st.b r x l := by
        intro l x t
        induction t with
        | root => intro _; exact .root
        | step hp hb _ ih =>
          intro h
          exact .step ((h _ (by simp)).trans hp) hb (ih fun a ha => h a (List.mem_cons_of_mem _ ha))
      exact this l z tr hNl
    have gN : Good N l := ⟨g.tail.1, fun a ha c hc => by rw [hNl a ha]; exact g.tail.2 a ha c hc⟩
    have hrN : N r = none := by rw [hN]; split <;> simp [I.rp]
    have hqN : N q = none := by rw [hN]; simp
    obtain ⟨f1, f2⟩ := flip_ok G MN trN hrN hqN gN hql (I.bad q z hb) (fun a _ y' q' h1 h2 => I.bad y' q' h2)
    refine ⟨_, f1, fun a => ?_⟩
    rw [f2, hN]
    constructor
    · rintro (h | h | h)
      · split at h
        · exact absurd rfl h
        · rename_i h'
          exact ⟨.inl h, fun e => h' (.inl e)⟩
      · rw [h]; exact ⟨.inl (by rw [M.sym _ _ hp]; simp), hqy⟩
      · rw [h]; exact ⟨.inr rfl, hry⟩
    · rintro ⟨h1, h2⟩
      by_cases e1 : a = q
      · exact .inr (.inl e1)
      · rcases h1 with h1 | h1
        · refine .inl ?_
          rw [if_neg]
          · exact h1
          · rintro (h | h)
            · exact h2 h
            · exact e1 h
        · exact .inr (.inr h1)
end
end Cherry
namespace Cherry

theorem inj_len {α : Type} (R : α → Nat → Prop) : ∀ (A : List α) (B : List Nat), A.Nodup → (∀ a ∈ A, ∃ b ∈ B, R a b) →
    (∀ a ∈ A, ∀ a' ∈ A, ∀ b, R a b → R a' b → a = a') → A.length ≤ B.length := by
  intro A
  induction A with
  | nil => intro B _ _ _; simp
  | cons a A ih =>
    intro B hd h1 h2
    obtain ⟨ha, hA⟩ := List.nodup_cons.mp hd
    obtain ⟨b, hb, hR⟩ := h1 a (by simp)
    have := ih (B.erase b) hA (fun a' ha' => by
      obtain ⟨b', hb', hR'⟩ := h1 a' (List.mem_cons_of_mem _ ha')
      refine ⟨b', ?_, hR'⟩
      refine (List.mem_erase_of_ne ?_).mpr hb'
      intro e
      rw [e] at hR'
      exact ha (h2 a (by simp) a' (List.mem_cons_of_mem _ ha') b hR hR' ▸ ha')) (fun a' h a'' h' b => h2 a' (List.mem_cons_of_mem _ h) a'' (List.mem_cons_of_mem _ h') b)
    rw [List.length_erase_of_mem hb] at this
    have hpos := List.length_pos_of_mem hb
    simp only [List.length_cons]
    omega

theorem even_invol (q : Nat → Option Nat) (hs : ∀ x y, q x = some y → q y = some x) (hi : ∀ x, q x ≠ some x) :
    ∀ (k : Nat) (L : List Nat), L.length ≤ k → L.Nodup → (∀ a ∈ L, ∃ c ∈ L, q a = some c) → L.length % 2 = 0 := by
  intro k
  induction k with
  | zero =>
    intro L hk _ _
    have : L.length = 0 := by omega
    rw [this]
  | succ k ih =>
    intro L hk hd hc
    cases L with
    | nil => rfl
    | cons a L =>
      obtain ⟨ha, hL⟩ := List.nodup_cons.mp hd
      obtain ⟨c, h1, h2⟩ := hc a (by simp)
      have hca : c ≠ a := fun e => hi a (by rw [← e] at h2 ⊢; exact h2)
      have hcL : c ∈ L := (List.mem_cons.mp h1).resolve_left hca
      have hlen := List.length_erase_of_mem hcL
      have hpos := List.length_pos_of_mem hcL
      have := ih (L.erase c) (by simp at hk; omega) (hL.erase c) (fun x hx => by
        have hx' := (hL.mem_erase_iff).mp hx
        obtain ⟨y, h3, h4⟩ := hc x (List.mem_cons_of_mem _ hx'.2)
        refine ⟨y, (hL.mem_erase_iff).mpr ⟨?_, ?_⟩, h4⟩
        · intro e
          rw [e] at h4
          have e2 := Option.some.inj ((hs _ _ h4).symm.trans (hs _ _ h2))
          exact ha (e2 ▸ hx'.2)
        · refine (List.mem_cons.mp h3).resolve_left ?_
          intro e
          rw [e] at h4
          have e2 := Option.some.inj ((hs _ _ h4).symm.trans h2)
          exact hx'.1 e2)
      simp only [List.length_cons]
      omega

section
variable {n : Nat} {lk : Nat → List Nat} {p : Nat → Option Nat} {r : Nat} {d : Nat → Nat} {st : St}

/-- the inner nodes -/
def inn (n : Nat) (st : St) : List Nat := (List.range n).filter fun y => decide (y ∉ st.o ∧ st.b y ≠ none)
def bases (st : St) : List Nat := st.o.filter fun x => decide (st.h x = x)

/-- a finished search -/
structure Done (n : Nat) (lk : Nat → List Nat) (p : Nat → Option Nat) (r : Nat) (st : St) : Prop where
  inv : ∃ d, Inv n lk p r d st
  scd : Scd lk st (fun a b => a ∈ st.o ∧ b ∈ lk a)

theorem Done.nb (D : Done n lk p r st) (G : Gr n lk) {x z : Nat} (hx : x ∈ st.o) (hz : z ∈ lk x) : (z ∈ st.o ∧ st.h z = st.h x) ∨ z ∈ inn n st := by
  by_cases h : z ∈ st.o
  · exact .inl ⟨h, (D.scd.s2 x z ⟨hx, hz⟩ ⟨h, G.sym _ _ hz⟩).symm⟩
  · refine .inr (List.mem_filter.mpr ⟨by simpa using G.lt _ _ hz, ?_⟩)
    rcases D.scd.s1 x z ⟨hx, hz⟩ with h' | h'
    · exact absurd h' h
    · simp [h, h']

theorem mem_inn {y : Nat} : y ∈ inn n st ↔ y < n ∧ y ∉ st.o ∧ st.b y ≠ none := by
  unfold inn
  rw [List.mem_filter]
  simp

theorem Inv.inn_p (M : Mt lk p) (I : Inv n lk p r d st) {y : Nat} (hy : y ∈ inn n st) : ∃ x ∈ st.o, p y = some x ∧ p x = some y ∧ st.h x = x ∧ x ≠ r := by
  obtain ⟨h1, h2, h3⟩ := mem_inn.mp hy
  cases h : st.b y with
  | none => exact absurd h h3
  | some z =>
    obtain ⟨x, hx, hp⟩ := I.binn y z h
    have hp' := M.sym _ _ hp
    refine ⟨x, hx, hp, hp', ?_, ?_⟩
    · apply Classical.byContradiction
      intro hne
      obtain ⟨y', z', q1, q2, _⟩ := I.cls x hx fun e => hne e.symm
      rw [← Option.some.inj (hp'.symm.trans q1)] at q2
      exact h2 q2
    · intro e
      rw [e, I.rp] at hp'
      cases hp'

theorem Done.bases_gt (M : Mt lk p) (D : Done n lk p r st) : (inn n st).length + 1 ≤ (bases st).length := by
  obtain ⟨d, I⟩ := D.inv
  have hr : r ∈ bases st := List.mem_filter.mpr ⟨I.ro, by simp [I.hr]⟩
  have hnd : (bases st).Nodup := List.Pairwise.filter _ I.ond
  have := inj_len (fun y x => p y = some x) (inn n st) ((bases st).erase r) (List.Pairwise.filter _ List.nodup_range) (fun y hy => by
    obtain ⟨x, h1, h2, h3, h4, h5⟩ := I.inn_p M hy
    exact ⟨x, (hnd.mem_erase_iff).mpr ⟨h5, List.mem_filter.mpr ⟨h1, by simp [h4]⟩⟩, h2⟩) (fun y _ y' _ x h h' => M.inj h h')
  rw [List.length_erase_of_mem hr] at this
  have hpos := List.length_pos_of_mem hr
  omega

/-- the class of a base is odd -/
theorem Inv.odd (G : Gr n lk) (M : Mt lk p) (I : Inv n lk p r d st) {B : Nat} (hB : B ∈ bases st) : (st.o.filter fun x => decide (st.h x = B)).length % 2 = 1 := by
  obtain ⟨hBo, hBB⟩ := List.mem_filter.mp hB
  have hBB : st.h B = B := by simpa using hBB
  have hm : B ∈ st.o.filter fun x => decide (st.h x = B) := List.mem_filter.mpr ⟨hBo, by simp [hBB]⟩
  have hnd : (st.o.filter fun x => decide (st.h x = B)).Nodup := List.Pairwise.filter _ I.ond
  have := even_invol p M.sym (fun x h => M.irr G h) _ ((st.o.filter fun x => decide (st.h x = B)).erase B) (Nat.le_refl _) (hnd.erase B) (fun x hx => by
    obtain ⟨h1, h2⟩ := (hnd.mem_erase_iff).mp hx
    obtain ⟨h2, h3⟩ := List.mem_filter.mp h2
    have h3 : st.h x = B := by simpa using h3
    obtain ⟨y, z, q1, q2, q3, _⟩ := I.cls x h2 (by rw [h3]; exact h1)
    refine ⟨y, (hnd.mem_erase_iff).mpr ⟨?_, List.mem_filter.mpr ⟨q2, by simp [q3, h3]⟩⟩, q1⟩
    intro e
    rw [e] at q1
    have q1 := M.sym _ _ q1
    have hr : B ≠ r := by
      intro e
      rw [e, I.rp] at q1
      cases q1
    obtain ⟨y', z', w1, w2, _⟩ := I.bas B hBo hBB.symm hr
    rw [← Option.some.inj (q1.symm.trans w1)] at w2
    exact w2 h2)
  rw [List.length_erase_of_mem hm] at this
  have hpos := List.length_pos_of_mem hm
  omega

theorem Done.count (G : Gr n lk) (M : Mt lk p) (D : Done n lk p r st) {N : Nat → Option Nat} (MN : Mt lk N) :
    (bases st).length ≤ ((inn n st).filter fun y => decide (N y ≠ none)).length + (st.o.filter fun x => decide (N x = none)).length := by
  obtain ⟨d, I⟩ := D.inv
  have := inj_len (fun B e => (e ∈ st.o ∧ st.h e = B) ∨ (e ∉ st.o ∧ ∃ x ∈ st.o, st.h x = B ∧ N e = some x)) (bases st)
    (((inn n st).filter fun y => decide (N y ≠ none)) ++ (st.o.filter fun x => decide (N x = none))) (List.Pairwise.filter _ I.ond) (fun B hB => by
      have hodd := I.odd G M hB
      apply Classical.byContradiction
      intro hno
      have hev := even_invol N MN.sym (fun x h => MN.irr G h) _ (st.o.filter fun x => decide (st.h x = B)) (Nat.le_refl _) (List.Pairwise.filter _ I.ond) (fun x hx => by
        obtain ⟨h1, h2⟩ := List.mem_filter.mp hx
        have h2 : st.h x = B := by simpa using h2
        cases hN : N x with
        | none => exact absurd ⟨x, List.mem_append_right _ (List.mem_filter.mpr ⟨h1, by simp [hN]⟩), .inl ⟨h1, h2⟩⟩ hno
        | some y =>
          refine ⟨y, ?_, rfl⟩
          rcases D.nb G h1 (MN.adj _ _ hN) with ⟨h3, h4⟩ | h3
          · exact List.mem_filter.mpr ⟨h3, by simp [h4, h2]⟩
          · have hN' := MN.sym _ _ hN
            exact absurd ⟨y, List.mem_append_left _ (List.mem_filter.mpr ⟨h3, by simp [hN']⟩), .inr ⟨(mem_inn.mp h3).2.1, x, h1, h2, hN'⟩⟩ hno)
      omega) (fun B _ B' _ e h h' => by
        rcases h with ⟨h1, h2⟩ | ⟨h1, x, h2, h3, h4⟩
        · rcases h' with ⟨_, h3⟩ | ⟨h3, _⟩
          · rw [← h2, h3]
          · exact absurd h1 h3
        · rcases h' with ⟨h5, _⟩ | ⟨_, x', h5, h6, h7⟩
          · exact absurd h5 h1
          · have e := Option.some.inj (h4.symm.trans h7)
            rw [← h3, e, h6])
  rw [List.length_append] at this
  exact this

/-- no matching covers what p covers and v -/
def Block (lk : Nat → List Nat) (p : Nat → Option Nat) (v : Nat) : Prop := ¬ ∃ N, Mt lk N ∧ (∀ a, p a ≠ none → N a ≠ none) ∧ N v ≠ none

theorem Done.free (D : Done n lk p r st) {x : Nat} (hx : x ∈ st.o) (h : p x = none) : x = r := by
  obtain ⟨d, I⟩ := D.inv
  apply Classical.byContradiction
  intro hr
  obtain ⟨y, z, q, _⟩ := I.step hx hr
  rw [h] at q
  cases q

theorem Done.block (G : Gr n lk) (M : Mt lk p) (D : Done n lk p r st) : Block lk p r := by
  rintro ⟨N, MN, h1, h2⟩
  have c1 := D.bases_gt M
  have c2 := D.count G M MN
  have c3 : (st.o.filter fun x => decide (N x = none)) = [] := by
    apply List.filter_eq_nil_iff.mpr
    intro x hx h
    have h : N x = none := by simpa using h
    by_cases e : p x = none
    · rw [D.free hx e] at h
      exact h2 h
    · exact h1 x e h
  have c4 := List.length_filter_le (fun y => decide (N y ≠ none)) (inn n st)
  rw [c3] at c2
  simp only [List.length_nil] at c2
  omega

theorem filter_lt {L : List Nat} {q : Nat → Bool} {y : Nat} (hy : y ∈ L) (h : q y = false) : (L.filter q).length < L.length := by
  apply Classical.byContradiction
  intro hc
  have e : (L.filter q).length = L.length := Nat.le_antisymm (List.length_filter_le _ _) (by omega)
  have := List.length_filter_eq_length_iff.mp e y hy
  rw [h] at this
  cases this

theorem Done.disj (G : Gr n lk) (M : Mt lk p) {v w : Nat} {sv sw : St} (Dv : Done n lk p v sv) (Dw : Done n lk p w sw) {y : Nat} (h1 : y ∈ sv.o) (h2 : y ∈ inn n sw) : False := by
  obtain ⟨dv, Iv⟩ := Dv.inv
  obtain ⟨dw, Iw⟩ := Dw.inv
  obtain ⟨N, MN, hN⟩ := Iv.swap G M h1
  have c1 := Dw.bases_gt M
  have c2 := Dw.count G M MN
  have hNy : N y = none := by
    apply Classical.byContradiction
    intro h
    exact ((hN y).mp h).2 rfl
  have c3 := filter_lt (q := fun y => decide (N y ≠ none)) h2 (by simp [hNy])
  have c4 : (sw.o.filter fun x => decide (N x = none)).length ≤ [w].length := by
    refine inj_len (fun a b => a = b) _ [w] (List.Pairwise.filter _ Iw.ond) (fun x hx => ?_) (fun a _ a' _ b h h' => h.trans h'.symm)
    obtain ⟨h3, h4⟩ := List.mem_filter.mp hx
    have h4 : N x = none := by simpa using h4
    refine ⟨w, by simp, ?_⟩
    refine Dw.free h3 ?_
    apply Classical.byContradiction
    intro hp
    refine (hN x).mpr ⟨.inl hp, ?_⟩ h4
    intro e
    rw [e] at h3
    exact (mem_inn.mp h2).2.1 h3
  simp only [List.length_cons, List.length_nil] at c4
  omega

theorem run_cases (G : Gr n lk) (M : Mt lk p) (hr : r < n) (hp : p r = none) :
    (∃ st', run n lk p r = some (none, st') ∧ Done n lk p r st') ∨
    (∃ t st' x' l, run n lk p r = some (some t, st') ∧ Found n lk p r t x' l st'.b) := by
  rcases run_ok G M hr hp with ⟨d, st', e, I, S⟩ | h
  · exact .inl ⟨st', e, ⟨d, I⟩, S⟩
  · exact .inr h

theorem foldlM_range {α : Type} (f : α → Nat → Option α) (P : Nat → α → Prop) (a0 : α) (h0 : P 0 a0)
    (hs : ∀ k a, k < n → P k a → ∃ a', f a k = some a' ∧ P (k + 1) a') : ∃ a, (List.range n).foldlM f a0 = some a ∧ P n a := by
  have : ∀ k, k ≤ n → ∃ a, (List.range k).foldlM f a0 = some a ∧ P k a := by
    intro k
    induction k with
    | zero => intro _; exact ⟨a0, rfl, h0⟩
    | succ k ih =>
      intro hk
      obtain ⟨a, h1, h2⟩ := ih (by omega)
      obtain ⟨a', h3, h4⟩ := hs k a (by omega) h2
      refine ⟨a', ?_, h4⟩
      rw [List.range_succ, List.foldlM_append, h1]
      simp [h3]
  exact this n (Nat.le_refl _)

theorem greatest_ok (G : Gr n lk) : ∃ p, greatest n lk = some p ∧ Mt lk p ∧ ∀ v, v < n → p v = none → Block lk p v := by
  have := foldlM_range (n := n) (greatStep n lk) (fun k p => Mt lk p ∧ ∀ v, v < k → p v = none → Block lk p v) (fun _ => none)
    ⟨⟨fun _ _ h => (by cases h), fun _ _ h => (by cases h)⟩, fun v h => (by omega)⟩ (fun k p hk hP => by
      obtain ⟨M, hB⟩ := hP
      cases e : p k with
      | some y =>
        refine ⟨p, by simp [greatStep, e], M, fun v hv hp => ?_⟩
        by_cases ev : v = k
        · rw [ev, e] at hp; cases hp
        · exact hB v (by omega) hp
      | none =>
        rcases run_cases G M hk e with ⟨st', e1, D⟩ | ⟨t, st', x, l, e1, F⟩
        · refine ⟨p, by simp [greatStep, e, augmenting, e1], M, fun v hv hp => ?_⟩
          by_cases ev : v = k
          · rw [ev]; exact D.block G M
          · exact hB v (by omega) hp
        · obtain ⟨f1, f2, f3⟩ := augment_ok G M F
          refine ⟨flip p (pathOf p t l), by simp [greatStep, e, augmenting, e1, f1], f2, fun v hv hp => ?_⟩
          have hpv : p v = none := by
            apply Classical.byContradiction
            intro h
            exact (f3 v).mpr (.inl h) hp
          by_cases ev : v = k
          · exact absurd hp ((f3 v).mpr (.inr (.inr ev)))
          · rintro ⟨N, h1, h2, h3⟩
            exact hB v (by omega) hpv ⟨N, h1, fun a ha => h2 a ((f3 a).mpr (.inl ha)), h3⟩)
  exact this

/-- all searches from free nodes end without a find -/
theorem run_done (G : Gr n lk) (M : Mt lk p) (hB : ∀ v, v < n → p v = none → Block lk p v) {v : Nat} (hv : v < n) (hp : p v = none) :
    ∃ st', run n lk p v = some (none, st') ∧ Done n lk p v st' := by
  rcases run_cases G M hv hp with h | ⟨t, st', x, l, e1, F⟩
  · exact h
  · obtain ⟨f1, f2, f3⟩ := augment_ok G M F
    exact absurd ⟨_, f2, fun a ha => (f3 a).mpr (.inl ha), (f3 v).mpr (.inr (.inr rfl))⟩ (hB v hv hp)

theorem left_ok (G : Gr n lk) (M : Mt lk p) (hB : ∀ v, v < n → p v = none → Block lk p v) :
    ∃ left, leftOut n lk p = some left ∧ ∀ x, x ∈ left ↔ ∃ v st', v < n ∧ p v = none ∧ run n lk p v = some (none, st') ∧ x ∈ st'.o := by
  obtain ⟨f, h1, h2⟩ := foldlM_range (n := n) (leftStep n lk p) (fun k f => ∀ x, x ∈ f ↔ ∃ v st', v < k ∧ p v = none ∧ run n lk p v = some (none, st') ∧ x ∈ st'.o) []
    (fun x => ⟨fun h => by simp at h, fun ⟨v, _, h, _⟩ => by omega⟩) (fun k f hk hf => by
      cases e : p k with
      | some y =>
        refine ⟨f, by simp [leftStep, e], fun x => ?_⟩
        rw [hf]
        constructor
        · rintro ⟨v, st', a1, a2⟩
          exact ⟨v, st', by omega, a2⟩
        · rintro ⟨v, st', a1, a2, a3⟩
          by_cases ev : v = k
          · rw [ev, e] at a2; cases a2
          · exact ⟨v, st', by omega, a2, a3⟩
      | none =>
        obtain ⟨st', e1, D⟩ := run_done G M hB hk e
        refine ⟨f ++ st'.o.filter (fun y => decide (y ∉ f)), by simp [leftStep, e, e1], fun x => ?_⟩
        rw [List.mem_append, List.mem_filter]
        constructor
        · rintro (h | ⟨h, _⟩)
          · obtain ⟨v, st2, a1, a2⟩ := (hf x).mp h
            exact ⟨v, st2, by omega, a2⟩
          · exact ⟨k, st', by omega, e, e1, h⟩
        · rintro ⟨v, st2, a1, a2, a3, a4⟩
          by_cases ev : v = k
          · rw [ev, e1] at a3
            have e3 : st' = st2 := by
              have := Option.some.inj a3
              exact (Prod.mk.inj this).2
            by_cases hx : x ∈ f
            · exact .inl hx
            · exact .inr ⟨e3 ▸ a4, by simpa using hx⟩
          · exact .inl ((hf x).mpr ⟨v, st2, by omega, a2, a3, a4⟩))
  refine ⟨(List.range n).filter (fun x => decide (x ∈ f)), by simp [leftOut, h1], fun x => ?_⟩
  rw [List.mem_filter, ← h2]
  simp only [List.mem_range, decide_eq_true_eq]
  constructor
  · exact fun h => h.2
  · intro h
    refine ⟨?_, h⟩
    obtain ⟨v, st', a1, a2, a3, a4⟩ := (h2 x).mp h
    obtain ⟨st2, e1, D⟩ := run_done G M hB a1 a2
    rw [e1] at a3
    have e3 : st2 = st' := (Prod.mk.inj (Option.some.inj a3)).2
    obtain ⟨d, I⟩ := D.inv
    exact I.ol x (e3 ▸ a4)

/-- the components of the graph without a barrier -/
structure Rows (n : Nat) (lk : Nat → List Nat) (A : List Nat) (rows : List (List Nat)) : Prop where
  nd : ∀ K ∈ rows, K.Nodup
  rnd : rows.Nodup
  dj : ∀ K ∈ rows, ∀ K' ∈ rows, ∀ x, x ∈ K → x ∈ K' → K = K'
  ln : ∀ K ∈ rows, ∀ x ∈ K, x < n ∧ x ∉ A
  cov : ∀ x, x < n → x ∉ A → ∃ K ∈ rows, x ∈ K
  cl : ∀ K ∈ rows, ∀ x ∈ K, ∀ z ∈ lk x, z ∉ A → z ∈ K
  con : ∀ K ∈ rows, ∀ S : Nat → Prop, (∀ z z', S z → z' ∈ lk z → z' ∉ A → S z') → ∀ x ∈ K, S x → ∀ y ∈ K, S y

theorem edges_count (G : Gr n lk) (M : Mt lk p) : ((List.range n).filter fun x => decide (p x = none)).length + 2 * (edgesOf n p).length = n := by
  have e1 : (edgesOf n p).length = ((List.range n).filter fun x => decide (∃ y, p x = some y ∧ x < y)).length := by
    unfold edgesOf
    generalize List.range n = L
    induction L with
    | nil => rfl
    | cons a L ih =>
      rw [List.filterMap_cons, List.filter_cons]
      cases e : p a with
      | none => simp [ih]
      | some y =>
        by_cases h : a < y
        · simp [h, ih]
        · simp [h, ih]
  have e2 : ((List.range n).filter fun x => decide (∃ y, p x = some y ∧ x < y)).length = ((List.range n).filter fun x => decide (∃ y, p x = some y ∧ y < x)).length := by
    apply Nat.le_antisymm
    · refine inj_len (fun x y => p x = some y) _ _ (List.Pairwise.filter _ List.nodup_range) (fun x hx => ?_) (fun a _ a' _ b h h' => M.inj h h')
      obtain ⟨h1, h2⟩ := List.mem_filter.mp hx
      obtain ⟨y, h3, h4⟩ := of_decide_eq_true h2
      exact ⟨y, List.mem_filter.mpr ⟨by simpa using M.lt G h3, by simpa using ⟨x, M.sym _ _ h3, h4⟩⟩, h3⟩
    · refine inj_len (fun x y => p x = some y) _ _ (List.Pairwise.filter _ List.nodup_range) (fun x hx => ?_) (fun a _ a' _ b h h' => M.inj h h')
      obtain ⟨h1, h2⟩ := List.mem_filter.mp hx
      obtain ⟨y, h3, h4⟩ := of_decide_eq_true h2
      exact ⟨y, List.mem_filter.mpr ⟨by simpa using M.lt G h3, by simpa using ⟨x, M.sym _ _ h3, h4⟩⟩, h3⟩
  have e3 : ∀ L : List Nat, (L.filter fun x => decide (p x = none)).length + (L.filter fun x => decide (∃ y, p x = some y ∧ x < y)).length + (L.filter fun x => decide (∃ y, p x = some y ∧ y < x)).length = L.length := by
    intro L
    induction L with
    | nil => rfl
    | cons a L ih =>
      rw [List.filter_cons, List.filter_cons, List.filter_cons]
      cases e : p a with
      | none => simp; omega
      | some y =>
        have hne : a ≠ y := by
          intro h
          rw [← h] at e
          exact M.irr G e
        rcases Nat.lt_or_gt_of_ne hne with h | h
        · have h' : ¬ y < a := by omega
          simp [h, h']; omega
        · have h' : ¬ a < y := by omega
          simp [h, h']; omega
  have := e3 (List.range n)
  rw [List.length_range] at this
  omega

theorem main_eq (G : Gr n lk) (M : Mt lk p) (hB : ∀ v, v < n → p v = none → Block lk p v) {left : List Nat} (hl : leftOut n lk p = some left) {rows : List (List Nat)}
    (R : Rows n lk (near n lk left) rows) : (rows.filter fun K => decide (K.length % 2 = 1)).length + 2 * (edgesOf n p).length = n + (near n lk left).length := by
  obtain ⟨left', hl', hleft⟩ := left_ok G M hB
  have e := Option.some.inj (hl.symm.trans hl')
  subst e
  have hA : ∀ a, a ∈ near n lk left ↔ a < n ∧ a ∉ left ∧ ∃ z ∈ lk a, z ∈ left := by
    intro a
    unfold near
    rw [List.mem_filter]
    simp
  have hAn : (near n lk left).Nodup := List.Pairwise.filter _ List.nodup_range
  generalize near n lk left = A at *
  -- searches
  have hD : ∀ x, x ∈ left ↔ ∃ v st', v < n ∧ p v = none ∧ Done n lk p v st' ∧ x ∈ st'.o := by
    intro x
    rw [hleft]
    constructor
    · rintro ⟨v, st', a1, a2, a3, a4⟩
      obtain ⟨st2, e1, D⟩ := run_done G M hB a1 a2
      rw [e1] at a3
      have e3 : st2 = st' := (Prod.mk.inj (Option.some.inj a3)).2
      exact ⟨v, st', a1, a2, e3 ▸ D, a4⟩
    · rintro ⟨v, st', a1, a2, D, a4⟩
      obtain ⟨st2, e1, D2⟩ := run_done G M hB a1 a2
      refine ⟨v, st2, a1, a2, e1, ?_⟩
      -- x lies in the other search from v, too: counted again
      apply Classical.byContradiction
      intro hx
      obtain ⟨d, I⟩ := D.inv
      obtain ⟨d2, I2⟩ := D2.inv
      -- follow the trace of x in st' from the root: all its nodes lie in st2.o
      obtain ⟨l, t, g⟩ := I.tr x a4
      have : ∀ l x, Tr p st'.b v x l → x ∈ st'.o → x ∈ st2.o := by
        intro l x t
        induction t with
        | root => intro _; exact I2.ro
        | @step x y z l hp hb t ih =>
          intro hxo
          have hz := ih (I.step' hxo hp hb).1
          have hy : y ∈ lk z := G.sym _ _ (I.bad _ _ hb)
          rcases D2.nb G hz hy with ⟨h1, h2⟩ | h1
          · by_cases hx2 : x ∈ st2.o
            · exact hx2
            · -- y outer in st2, x its partner not: then y is a base there and x is inner there
              exfalso
              have hyr : y ≠ v := by
                intro e
                have := M.sym _ _ hp
                rw [e, I.rp] at this
                cases this
              obtain ⟨y', z', q1, q2, _⟩ := I2.step h1 hyr
              have e := Option.some.inj ((M.sym _ _ hp).symm.trans q1)
              rw [← e] at q2
              have hxi : x ∈ inn n st2 := mem_inn.mpr ⟨M.lt' G hp, hx2, by rw [q2]; simp⟩
              exact Done.disj G M D D2 hxo hxi
          · obtain ⟨x2, h2, h3, _⟩ := I2.inn_p M h1
            rw [Option.some.inj ((M.sym _ _ hp).symm.trans h3)]
            exact h2
      exact hx (this l x t a4)
  have hinnD : ∀ v st' y, p v = none → Done n lk p v st' → y ∈ inn n st' → y ∉ left := by
    intro v st' y hv D hy h
    obtain ⟨v2, st2, _, a2, D2, h2⟩ := (hD y).mp h
    exact Done.disj G M D2 D h2 hy
  have hfree : ∀ v, v < n → p v = none → v ∈ left := by
    intro v hv hp
    obtain ⟨st', e1, D⟩ := run_done G M hB hv hp
    obtain ⟨d, I⟩ := D.inv
    exact (hD v).mpr ⟨v, st', hv, hp, D, I.ro⟩
  have hApart : ∀ a ∈ A, ∃ x ∈ left, p a = some x := by
    intro a ha
    obtain ⟨h1, h2, z, h3, h4⟩ := (hA a).mp ha
    obtain ⟨v, st', a1, a2, D, h5⟩ := (hD z).mp h4
    obtain ⟨d, I⟩ := D.inv
    rcases D.nb G h5 (G.sym _ _ h3) with ⟨h6, _⟩ | h6
    · exact absurd ((hD a).mpr ⟨v, st', a1, a2, D, h6⟩) h2
    · obtain ⟨x, h7, h8, _⟩ := I.inn_p M h6
      exact ⟨x, (hD x).mpr ⟨v, st', a1, a2, D, h7⟩, h8⟩
  -- exposed nodes
  have hE : ∃ E : List Nat, E.Nodup ∧ (∀ x, x ∈ E ↔ x < n ∧ (p x = none ∨ ∃ a ∈ A, p x = some a)) ∧
      E.length = ((List.range n).filter fun x => decide (p x = none)).length + A.length := by
    refine ⟨((List.range n).filter fun x => decide (p x = none)) ++ ((List.range n).filter fun x => decide (∃ a ∈ A, p x = some a)), ?_, ?_, ?_⟩
    · refine List.nodup_append.mpr ⟨List.Pairwise.filter _ List.nodup_range, List.Pairwise.filter _ List.nodup_range, ?_⟩
      intro x hx y hy e
      have h1 := of_decide_eq_true (List.mem_filter.mp hx).2
      obtain ⟨a, _, h2⟩ := of_decide_eq_true (List.mem_filter.mp hy).2
      rw [← e, h1] at h2
      cases h2
    · intro x
      rw [List.mem_append, List.mem_filter, List.mem_filter]
      simp only [List.mem_range, decide_eq_true_eq]
      constructor
      · rintro (⟨h1, h2⟩ | ⟨h1, h2⟩)
        · exact ⟨h1, .inl h2⟩
        · exact ⟨h1, .inr h2⟩
      · rintro ⟨h1, h2 | h2⟩
        · exact .inl ⟨h1, h2⟩
        · exact .inr ⟨h1, h2⟩
    · rw [List.length_append]
      congr 1
      apply Nat.le_antisymm
      · refine inj_len (fun x a => p x = some a) _ _ (List.Pairwise.filter _ List.nodup_range) (fun x hx => ?_) (fun a _ a' _ b h h' => M.inj h h')
        obtain ⟨a, h1, h2⟩ := of_decide_eq_true (List.mem_filter.mp hx).2
        exact ⟨a, h1, h2⟩
      · refine inj_len (fun a x => p a = some x) _ _ hAn (fun a ha => ?_) (fun a _ a' _ b h h' => M.inj h h')
        obtain ⟨x, h1, h2⟩ := hApart a ha
        exact ⟨x, List.mem_filter.mpr ⟨by simpa using M.lt G h2, by simpa using ⟨a, ha, M.sym _ _ h2⟩⟩, h2⟩
  obtain ⟨E, hEn, hEm, hEl⟩ := hE
  have hEleft : ∀ x ∈ E, x ∈ left := by
    intro x hx
    obtain ⟨h1, h2 | ⟨a, h2, h3⟩⟩ := (hEm x).mp hx
    · exact hfree x h1 h2
    · obtain ⟨x', h4, h5⟩ := hApart a h2
      rw [Option.some.inj ((M.sym _ _ h3).symm.trans h5)]
      exact h4
  have hleftA : ∀ x ∈ left, x ∉ A := fun x h h' => ((hA x).mp h').2.1 h
  -- a row has at most one exposed node
  have one : ∀ K ∈ rows, ∀ x ∈ K, ∀ x' ∈ K, x ∈ E → x' ∈ E → x = x' := by
    intro K hK x hx x' hx' hxE hxE'
    obtain ⟨v, st', a1, a2, D, h1⟩ := (hD x).mp (hEleft x hxE)
    obtain ⟨d, I⟩ := D.inv
    have hS := R.con K hK (fun z => z ∈ st'.o ∧ st'.h z = st'.h x) (fun z z' hz hz' hA' => by
      rcases D.nb G hz.1 hz' with ⟨h2, h3⟩ | h2
      · exact ⟨h2, h3.trans hz.2⟩
      · exact absurd ((hA z').mpr ⟨G.lt _ _ hz', hinnD v st' z' a2 D h2, z, G.sym _ _ hz', (hD z).mpr ⟨v, st', a1, a2, D, hz.1⟩⟩) hA') x hx ⟨h1, rfl⟩
    have hbase : ∀ c ∈ K, c ∈ E → c = st'.h c := by
      intro c hc hcE
      apply Classical.byContradiction
      intro hne
      obtain ⟨y, z, q1, q2, _⟩ := I.cls c (hS c hc).1 hne
      obtain ⟨_, h2 | ⟨a, h2, h3⟩⟩ := (hEm c).mp hcE
      · rw [h2] at q1; cases q1
      · rw [← Option.some.inj (h3.symm.trans q1)] at q2
        exact hleftA a ((hD a).mpr ⟨v, st', a1, a2, D, q2⟩) h2
    rw [hbase x hx hxE, hbase x' hx' hxE', (hS x' hx').2]
  have hclose : ∀ K ∈ rows, ∀ c ∈ K, c ∉ E → ∃ c' ∈ K, p c = some c' := by
    intro K hK c hc hcE
    have hcn := (R.ln K hK c hc).1
    cases e : p c with
    | none => exact absurd ((hEm c).mpr ⟨hcn, .inl e⟩) hcE
    | some c' =>
      refine ⟨c', R.cl K hK c hc c' (M.adj _ _ e) ?_, rfl⟩
      intro h
      exact hcE ((hEm c).mpr ⟨hcn, .inr ⟨c', h, e⟩⟩)
  have hirr : ∀ x, p x ≠ some x := fun x h => M.irr G h
  have hcount : (rows.filter fun K => decide (K.length % 2 = 1)).length = E.length := by
    apply Nat.le_antisymm
    · refine inj_len (fun K x => x ∈ K ∧ x ∈ E) _ _ (List.Pairwise.filter _ R.rnd) (fun K hK => ?_) (fun K hK K' hK' x h h' => R.dj K (List.mem_filter.mp hK).1 K' (List.mem_filter.mp hK').1 x h.1 h'.1)
      obtain ⟨h1, h2⟩ := List.mem_filter.mp hK
      have h2 := of_decide_eq_true h2
      apply Classical.byContradiction
      intro hno
      have := even_invol p M.sym hirr _ K (Nat.le_refl _) (R.nd K h1) (fun c hc => hclose K h1 c hc fun h => hno ⟨c, h, hc, h⟩)
      omega
    · -- each exposed node has an odd row: count through the first node of it
      have hrow : ∀ x ∈ E, ∃ K ∈ rows, x ∈ K ∧ K.length % 2 = 1 := by
        intro x hx
        obtain ⟨K, hK, hxK⟩ := R.cov x ((hEm x).mp hx).1 (hleftA x (hEleft x hx))
        refine ⟨K, hK, hxK, ?_⟩
        have := even_invol p M.sym hirr _ (K.erase x) (Nat.le_refl _) ((R.nd K hK).erase x) (fun c hc => by
          obtain ⟨h1, h2⟩ := ((R.nd K hK).mem_erase_iff).mp hc
          have hcE : c ∉ E := fun h => h1 (one K hK c h2 x hxK h hx)
          obtain ⟨c', h3, h4⟩ := hclose K hK c h2 hcE
          refine ⟨c', ((R.nd K hK).mem_erase_iff).mpr ⟨?_, h3⟩, h4⟩
          intro e
          rw [e] at h4
          have h5 := M.sym _ _ h4
          obtain ⟨_, h6 | ⟨a, h6, h7⟩⟩ := (hEm x).mp hx
          · rw [h6] at h5; cases h5
          · rw [Option.some.inj (h7.symm.trans h5)] at h6
            exact (R.ln K hK c h2).2 h6)
        rw [List.length_erase_of_mem hxK] at this
        have hpos := List.length_pos_of_mem hxK
        omega
      have h3 : E.length ≤ ((List.range (rows.filter fun K => decide (K.length % 2 = 1)).length)).length := by
        refine inj_len (fun x j => ∃ K, (rows.filter fun K => decide (K.length % 2 = 1))[j]? = some K ∧ x ∈ K) E _ hEn (fun x hx => ?_) (fun x hx x' hx' j h h' => ?_)
        · obtain ⟨K, hK, hxK, ho⟩ := hrow x hx
          have hm : K ∈ rows.filter fun K => decide (K.length % 2 = 1) := List.mem_filter.mpr ⟨hK, by simp [ho]⟩
          obtain ⟨j, hj, e⟩ := List.mem_iff_getElem.mp hm
          exact ⟨j, by simpa using hj, K, by rw [List.getElem?_eq_getElem hj, e], hxK⟩
        · obtain ⟨K, e1, h1⟩ := h
          obtain ⟨K', e2, h2⟩ := h'
          have e := Option.some.inj (e1.symm.trans e2)
          subst e
          have hK := (List.mem_filter.mp (List.mem_of_getElem? e1)).1
          exact one K hK x h1 x' h2 hx hx'
      rw [List.length_range] at h3
      exact h3
  have hc := edges_count G M
  rw [hcount, hEl]
  omega
end
end Cherry
namespace Cherry
section
variable {n : Nat} {lk : Nat → List Nat} {A : List Nat}
/-- a set that steps outside A do not leave -/
def Cld (lk : Nat → List Nat) (A : List Nat) (S : Nat → Prop) : Prop := ∀ z z', S z → z' ∈ lk z → z' ∉ A → S z'
/-- some of what s reaches outside A -/
structure RP (n : Nat) (lk : Nat → List Nat) (A : List Nat) (s : Nat) (R : List Nat) : Prop where
  nd : R.Nodup
  lt : ∀ x ∈ R, x < n ∧ x ∉ A
  st : s ∈ R
  mn : ∀ S : Nat → Prop, Cld lk A S → S s → ∀ y ∈ R, S y
/-- the inner walk: the first k neighbours of x are in -/
structure RIn (n : Nat) (lk : Nat → List Nat) (A : List Nat) (s : Nat) (R0 R : List Nat) (x k : Nat) : Prop where
  rp : RP n lk A s R
  ext : ∃ t, R = R0 ++ t
  inn : ∀ z ∈ (lk x).take k, z ∉ A → z ∈ R
theorem RIn.start {s x : Nat} {R : List Nat} (h : RP n lk A s R) : RIn n lk A s R R x 0 := ⟨h, ⟨[], by simp⟩, by simp⟩
theorem RIn.skip {s x k z : Nat} {R0 R : List Nat} (h : RIn n lk A s R0 R x k) (hz : (lk x)[k]? = some z) (hs : z ∈ R ∨ z ∈ A) : RIn n lk A s R0 R x (k + 1) := by
  refine ⟨h.rp, h.ext, fun y hy hA => ?_⟩
  rw [List.take_add_one, hz] at hy
  rcases List.mem_append.mp hy with hy | hy
  · exact h.inn y hy hA
  · have : y = z := by simpa using hy
    subst this
    rcases hs with hs | hs
    · exact hs
    · exact absurd hs hA
theorem RIn.add {s x k z : Nat} {R0 R : List Nat} (G : Gr n lk) (h : RIn n lk A s R0 R x k) (hx : x ∈ R) (hz : (lk x)[k]? = some z) (h1 : z ∉ R) (h2 : z ∉ A) : RIn n lk A s R0 (R ++ [z]) x (k + 1) := by
  have hm := List.mem_of_getElem? hz
  refine ⟨⟨?_, ?_, List.mem_append_left _ h.rp.st, ?_⟩, ?_, ?_⟩
  · refine List.nodup_append.mpr ⟨h.rp.nd, by simp, fun a ha b hb e => ?_⟩
    rw [List.mem_singleton.mp hb] at e
    exact h1 (e ▸ ha)
  · intro y hy
    rcases List.mem_append.mp hy with hy | hy
    · exact h.rp.lt y hy
    · rw [List.mem_singleton.mp hy]; exact ⟨G.lt _ _ hm, h2⟩
  · intro S hS hs y hy
    rcases List.mem_append.mp hy with hy | hy
    · exact h.rp.mn S hS hs y hy
    · rw [List.mem_singleton.mp hy]; exact hS x z (h.rp.mn S hS hs x hx) hm h2
  · obtain ⟨t, e⟩ := h.ext
    exact ⟨t ++ [z], by rw [e, List.append_assoc]⟩
  · intro y hy hA
    rw [List.take_add_one, hz] at hy
    rcases List.mem_append.mp hy with hy | hy
    · exact List.mem_append_left _ (h.inn y hy hA)
    · have : y = z := by simpa using hy
      subst this; simp
/-- the outer walk: the first k places are done, or all of them; turn i -/
structure ROut (n : Nat) (lk : Nat → List Nat) (A : List Nat) (s : Nat) (R : List Nat) (i k : Nat) : Prop where
  rp : RP n lk A s R
  le : k ≤ R.length
  tn : i = k ∨ k = R.length
  dn : ∀ j x, j < k → R[j]? = some x → ∀ z ∈ lk x, z ∉ A → z ∈ R
theorem ROut.start {s : Nat} (hs : s < n) (hA : s ∉ A) : ROut n lk A s [s] 0 0 :=
  ⟨⟨by simp, fun x hx => by rw [List.mem_singleton.mp hx]; exact ⟨hs, hA⟩, by simp, fun S _ h y hy => by rw [List.mem_singleton.mp hy]; exact h⟩, Nat.zero_le _, .inl rfl, fun j x h => by omega⟩
theorem ROut.stay {s i k : Nat} {R : List Nat} (h : ROut n lk A s R i k) (e : ¬ k < R.length) : ROut n lk A s R (i + 1) k := ⟨h.rp, h.le, .inr (by have := h.le; omega), h.dn⟩
theorem ROut.turn {s i k x : Nat} {R R' : List Nat} (h : ROut n lk A s R i k) (e : k < R.length) (hx : R[k]? = some x) (hI : RIn n lk A s R R' x (lk x).length) : ROut n lk A s R' (i + 1) (k + 1) := by
  obtain ⟨t, et⟩ := hI.ext
  have hsub : ∀ y ∈ R, y ∈ R' := fun y hy => by rw [et]; exact List.mem_append_left _ hy
  refine ⟨hI.rp, by rw [et, List.length_append]; omega, .inl ?_, fun j y hj hy z hz hA => ?_⟩
  · rcases h.tn with h1 | h1 <;> omega
  · by_cases ej : j = k
    · subst ej
      have : y = x := by
        rw [et, List.getElem?_append_left e, hx] at hy
        exact (Option.some.inj hy).symm
      subst this
      exact hI.inn z (by rw [List.take_length]; exact hz) hA
    · have hlt : j < R.length := by omega
      rw [et, List.getElem?_append_left hlt] at hy
      exact hsub z (h.dn j y (by omega) hy z hz hA)
theorem ROut.done {s k : Nat} {R : List Nat} (h : ROut n lk A s R n k) : ∀ x ∈ R, ∀ z ∈ lk x, z ∉ A → z ∈ R := by
  have hl := len_le n R h.rp.nd fun x hx => (h.rp.lt x hx).1
  have : k = R.length := by
    have := h.le
    rcases h.tn with h1 | h1 <;> omega
  intro x hx
  obtain ⟨j, hj, e⟩ := List.mem_iff_getElem.mp hx
  exact h.dn j x (by omega) (by rw [List.getElem?_eq_getElem hj, e])
/-- a component of the graph without A -/
structure Comp (n : Nat) (lk : Nat → List Nat) (A : List Nat) (R : List Nat) : Prop where
  ex : ∃ s, RP n lk A s R
  cl : ∀ x ∈ R, ∀ z ∈ lk x, z ∉ A → z ∈ R
theorem Comp.con (G : Gr n lk) {R : List Nat} (h : Comp n lk A R) {S : Nat → Prop} (hS : Cld lk A S) {x : Nat} (hx : x ∈ R) (sx : S x) : ∀ y ∈ R, S y := by
  obtain ⟨s, r⟩ := h.ex
  refine r.mn S hS ?_
  apply Classical.byContradiction
  intro hn
  have := r.mn (fun z => ¬ S z ∧ z ∉ A) (fun z z' hz hm hA => ⟨fun h' => hz.1 (hS z' z h' (G.sym _ _ hm) hz.2), hA⟩) ⟨hn, (r.lt s r.st).2⟩ x hx
  exact this.1 sx
/-- the rows so far -/
structure CRows (n : Nat) (lk : Nat → List Nat) (A : List Nat) (i : Nat) (rows : List (List Nat)) : Prop where
  cp : ∀ K ∈ rows, Comp n lk A K
  nd : rows.flatten.Nodup
  rnd : rows.Nodup
  cov : ∀ x, x < i → x ∉ A → ∃ K ∈ rows, x ∈ K
theorem CRows.nil : CRows n lk A 0 [] := ⟨by simp, by simp, by simp, fun x h => by omega⟩
theorem CRows.len {i : Nat} {rows : List (List Nat)} (h : CRows n lk A i rows) : rows.flatten.length ≤ n := len_le n _ h.nd fun x hx => by
  obtain ⟨K, hK, hxK⟩ := List.mem_flatten.mp hx
  obtain ⟨s, r⟩ := (h.cp K hK).ex
  exact (r.lt x hxK).1
theorem flat_len : ∀ {rows : List (List Nat)}, (∀ K ∈ rows, K ≠ []) → rows.length ≤ rows.flatten.length
  | [], _ => by simp
  | K :: r, h => by
    have ih := flat_len (rows := r) fun K' hK => h K' (List.mem_cons_of_mem _ hK)
    have : 0 < K.length := List.length_pos_iff.mpr (h K (by simp))
    simp only [List.flatten_cons, List.length_append, List.length_cons]
    omega
theorem CRows.rlen {i : Nat} {rows : List (List Nat)} (h : CRows n lk A i rows) : rows.length ≤ n := Nat.le_trans (flat_len fun K hK e => by
  obtain ⟨s, r⟩ := (h.cp K hK).ex
  have := r.st
  rw [e] at this
  simp at this) h.len
theorem CRows.skip {i : Nat} {rows : List (List Nat)} (h : CRows n lk A i rows) (hs : i ∈ A ∨ i ∈ rows.flatten) : CRows n lk A (i + 1) rows := by
  refine ⟨h.cp, h.nd, h.rnd, fun x hx hA => ?_⟩
  by_cases e : x = i
  · subst e
    rcases hs with hs | hs
    · exact absurd hs hA
    · exact List.mem_flatten.mp hs
  · exact h.cov x (by omega) hA
theorem CRows.add (G : Gr n lk) {i : Nat} {rows : List (List Nat)} {R : List Nat} (h : CRows n lk A i rows) (h1 : i ∉ A) (h2 : i ∉ rows.flatten) (r : RP n lk A i R) (cl : ∀ x ∈ R, ∀ z ∈ lk x, z ∉ A → z ∈ R) : CRows n lk A (i + 1) (rows ++ [R]) := by
  have hd : ∀ x ∈ R, x ∉ rows.flatten := fun x hx hm => by
    obtain ⟨K, hK, hxK⟩ := List.mem_flatten.mp hm
    have := r.mn (fun z => z ∉ K ∧ z ∉ A) (fun z z' hz hm hA => ⟨fun h' => hz.1 ((h.cp K hK).cl z' h' z (G.sym _ _ hm) hz.2), hA⟩) ⟨fun h' => h2 (List.mem_flatten.mpr ⟨K, hK, h'⟩), h1⟩ x hx
    exact this.1 hxK
  refine ⟨?_, ?_, ?_, ?_⟩
  · intro K hK
    rcases List.mem_append.mp hK with hK | hK
    · exact h.cp K hK
    · rw [List.mem_singleton.mp hK]; exact ⟨⟨i, r⟩, cl⟩
  · rw [List.flatten_append]
    have e : [R].flatten = R := by simp
    rw [e]
    exact List.nodup_append.mpr ⟨h.nd, r.nd, fun a ha b hb e => hd b hb (e ▸ ha)⟩
  · refine List.nodup_append.mpr ⟨h.rnd, by simp, fun a ha b hb e => ?_⟩
    rw [List.mem_singleton.mp hb] at e
    exact h2 (List.mem_flatten.mpr ⟨a, ha, by rw [e]; exact r.st⟩)
  · intro x hx hA
    by_cases e : x = i
    · subst e; exact ⟨R, by simp, r.st⟩
    · obtain ⟨K, hK, hxK⟩ := h.cov x (by omega) hA
      exact ⟨K, List.mem_append_left _ hK, hxK⟩
theorem flat_dj : ∀ {rows : List (List Nat)}, rows.flatten.Nodup → ∀ K ∈ rows, ∀ K' ∈ rows, ∀ x, x ∈ K → x ∈ K' → K = K'
  | [], _, K, hK, _, _, _, _, _ => by simp at hK
  | a :: r, h, K, hK, K', hK', x, hx, hx' => by
    rw [List.flatten_cons] at h
    obtain ⟨_, h2, h3⟩ := List.nodup_append.mp h
    rcases List.mem_cons.mp hK with e | hK
    · rcases List.mem_cons.mp hK' with e' | hK'
      · rw [e, e']
      · exact absurd rfl (h3 x (e ▸ hx) x (List.mem_flatten.mpr ⟨K', hK', hx'⟩))
    · rcases List.mem_cons.mp hK' with e' | hK'
      · exact absurd rfl (h3 x (e' ▸ hx') x (List.mem_flatten.mpr ⟨K, hK, hx⟩))
      · exact flat_dj h2 K hK K' hK' x hx hx'
theorem CRows.rows (G : Gr n lk) {rows : List (List Nat)} (h : CRows n lk A n rows) : Rows n lk A rows := by
  refine ⟨fun K hK => ?_, h.rnd, flat_dj h.nd, fun K hK => ?_, h.cov, fun K hK => (h.cp K hK).cl, fun K hK S hS x hx sx => (h.cp K hK).con G hS hx sx⟩
  · obtain ⟨s, r⟩ := (h.cp K hK).ex
    exact r.nd
  · obtain ⟨s, r⟩ := (h.cp K hK).ex
    exact r.lt
/-- members in another order -/
theorem RP.perm {s : Nat} {R R' : List Nat} (h : RP n lk A s R) (nd : R'.Nodup) (m : ∀ x, x ∈ R' ↔ x ∈ R) : RP n lk A s R' :=
  ⟨nd, fun x hx => h.lt x ((m x).mp hx), (m s).mpr h.st, fun S hS hs y hy => h.mn S hS hs y ((m y).mp hy)⟩
end
end Cherry
set_option maxRecDepth 100000
set_option maxHeartbeats 4000000
namespace Cherry
open PySem PySem.Spec PyProof.Rows L2
/-! ### the text by places -/
def top (i : Nat) : Stmt := PySem.Challenge.pw_cherrystone_k17_whole_greatest_matchings.main.body.getD i (.Pass ⟨0, 0, 0, 0⟩)

/-! ### a def that may be called by its name; a method; a class that makes -/
structure Cal (P : Program) (w : World) (K : PySem.W.Frag) (mg : Str → Option Value) (base : Heap) (k : Nat) (x : Str) (sp : Sp) : Prop where
  ex : ∃ (f : Addr) (fd : FuncData) (ps : List Str), FnOk P w K mg base CX0 k f fd ps sp ∧ mg x = some (.ref f) ∧ PySem.W.keepIn K (.ref f) = true ∧ Binds K fd ps []
structure Met (P : Program) (w : World) (K : PySem.W.Frag) (mg : Str → Option Value) (base : Heap) (k : Nat) (C : Addr) (m : Str) (sp : Sp) : Prop where
  ex : ∃ (f : Addr) (fd : FuncData) (ps : List Str), Cls K C ∧ Meth K C m f ∧ FnOk P w K mg base CX0 k f fd ps sp ∧ Binds K fd ps []
structure Mak (P : Program) (w : World) (K : PySem.W.Frag) (mg : Str → Option Value) (base : Heap) (k : Nat) (x : Str) (C : Addr) (sp : Sp) : Prop where
  ex : ∃ (f : Addr) (fd : FuncData) (ps : List Str), Mk K C f ∧ FnOk P w K mg base CX0 k f fd ps sp ∧ mg x = some (.ref C) ∧ Binds K fd ps []
/-- a def of the module under its name; its parameters -/
structure Dfn (K : PySem.W.Frag) (mg : Str → Option Value) (x : Str) (st : Stmt) (ps : List Str) : Prop where
  ex : ∃ (f : Addr) (fd : FuncData), Fun K x x st f fd ∧ mg x = some (.ref f) ∧ PySem.W.keepIn K (.ref f) = true ∧ Binds K fd ps []
structure Mdf (K : PySem.W.Frag) (C : Addr) (m qual : Str) (st : Stmt) (ps : List Str) : Prop where
  ex : ∃ (f : Addr) (fd : FuncData), Cls K C ∧ Meth K C m f ∧ Fun K m qual st f fd ∧ Binds K fd ps []
structure Kdf (K : PySem.W.Frag) (mg : Str → Option Value) (x qual : Str) (C : Addr) (st : Stmt) (ps : List Str) : Prop where
  ex : ∃ (f : Addr) (fd : FuncData), Mk K C f ∧ Fun K "__init__" qual st f fd ∧ mg x = some (.ref C) ∧ Binds K fd ps []
section
variable {P : Program} {w : World} {K : PySem.W.Frag} {mg : Str → Option Value} {base : Heap}
theorem Dfn.cal {x : Str} {st : Stmt} {ps N : List Str} {k : Nat} {sp : Sp} (D : Dfn K mg x st ps) (S : FnScope N ps (defScope st)) (len : ∀ vs H Q E, sp vs H Q E → vs.length = ps.length)
    (hbody : ∀ (f : Addr) (cdv : Value) (A : Around) (outer : List Env) (s : Shared) (H : Hp) (vs : List V) (Q : VK) (E : XK), Room k (A.deeper (envOfC x (defScope st) s.heap.objs.size f cdv)) → sp vs H Q E →
      ∃ t, PSs (cxOf CX0 P w K mg base N x (defScope st) f cdv A outer s H E).nox (defBody st) t ∧ t { nx := fun _ H' => Q .non H', rt := Q } (start N vs) H) : Cal P w K mg base (k + 1) x sp := by
  obtain ⟨f, fd, F, h1, h2, h3⟩ := D.ex
  exact ⟨f, fd, ps, F.ok S len (hbody f), h1, h2, h3⟩
theorem Mdf.met {m qual : Str} {C : Addr} {st : Stmt} {ps N : List Str} {k : Nat} {sp : Sp} (D : Mdf K C m qual st ps) (S : FnScope N ps (defScope st)) (len : ∀ vs H Q E, sp vs H Q E → vs.length = ps.length)
    (hbody : ∀ (f : Addr) (cdv : Value) (A : Around) (outer : List Env) (s : Shared) (H : Hp) (vs : List V) (Q : VK) (E : XK), Room k (A.deeper (envOfC qual (defScope st) s.heap.objs.size f cdv)) → sp vs H Q E →
      ∃ t, PSs (cxOf CX0 P w K mg base N qual (defScope st) f cdv A outer s H E).nox (defBody st) t ∧ t { nx := fun _ H' => Q .non H', rt := Q } (start N vs) H) : Met P w K mg base (k + 1) C m sp := by
  obtain ⟨f, fd, c, me, F, b⟩ := D.ex
  exact ⟨f, fd, ps, c, me, F.ok S len (hbody f), b⟩
theorem Kdf.mak {x qual : Str} {C : Addr} {st : Stmt} {ps N : List Str} {k : Nat} {sp : Sp} (D : Kdf K mg x qual C st ps) (S : FnScope N ps (defScope st)) (len : ∀ vs H Q E, sp vs H Q E → vs.length = ps.length)
    (hbody : ∀ (f : Addr) (cdv : Value) (A : Around) (outer : List Env) (s : Shared) (H : Hp) (vs : List V) (Q : VK) (E : XK), Room k (A.deeper (envOfC qual (defScope st) s.heap.objs.size f cdv)) → sp vs H Q E →
      ∃ t, PSs (cxOf CX0 P w K mg base N qual (defScope st) f cdv A outer s H E).nox (defBody st) t ∧ t { nx := fun _ H' => Q .non H', rt := Q } (start N vs) H) : Mak P w K mg base (k + 1) x C sp := by
  obtain ⟨f, fd, M, F, hm, b⟩ := D.ex
  exact ⟨f, fd, ps, M, F.ok S len (hbody f), hm, b⟩
end
section
variable {X : Cx} {e : Expr} {es : List Expr} {t : TA} {x : Str} {p pos apos : Pos} {k j : Nat} {sp : Sp} {C : Addr} {m : Str} {o : Expr} {ta : TE}
theorem qe_c (c : Cal X.prog X.w X.K X.mg X.base k x sp) (hr : Room j X.A) (hk : k ≤ j) (hg : Gl X x) (ha : PA X (e :: es) t)
    (hdb : (x == ("__debug__" : Str)) = false := by decide) (he : starEach (e :: es) X.env = (false, eval e X.env) :: starEach es X.env := by rfl) (hpl : (backTo pos (starEach es X.env)).any (·.1) = false := by rfl) :
    PE X (.Call (.Name x p) (e :: es) [] pos) (tCall sp [] E0 t) := by
  obtain ⟨f, fd, ps, F, hm, kp, b⟩ := c.ex
  exact pe_call F (hr.mono hk) hg hm kp b .nil pass0 ha hdb he hpl
theorem qe_mk (c : Mak X.prog X.w X.K X.mg X.base k x C sp) (hr : Room j X.A) (hk : k + 1 ≤ j) (hg : Gl X x) (ha : PA X (e :: es) t)
    (hdb : (x == ("__debug__" : Str)) = false := by decide) (he : starEach (e :: es) X.env = (false, eval e X.env) :: starEach es X.env := by rfl) (hpl : (backTo pos (starEach es X.env)).any (·.1) = false := by rfl) :
    PE X (.Call (.Name x p) (e :: es) [] pos) (tMake C sp [] E0 t) := by
  obtain ⟨f, fd, ps, M, F, hm, b⟩ := c.ex
  exact pe_make M F (hr.mono hk) hg hm b .nil pass0 ha hdb he hpl
theorem qe_mt {pl : Sem Bool} (c : Met X.prog X.w X.K X.mg X.base k C m sp) (hr : Room j X.A) (hk : k ≤ j) (he : PE X o ta) (ha : PA X (e :: es) t)
    (hst : starEach (e :: es) X.env = (false, eval e X.env) :: starEach es X.env := by rfl) (hpl : (backTo pos (starEach es X.env)).any (·.1) = false := by rfl)
    (ht : eval (.Call (.Attribute o m apos) (e :: es) [] pos) X.env = (do
      let ov ← eval o X.env
      standAt apos.atName
      let (f, first) ← holding [ov] (getMethod ov m pl)
      callWith pos f first (backTo pos (starEach (e :: es) X.env)) (backToKw pos (keywordEach [] X.env))) := by rfl) :
    PE X (.Call (.Attribute o m apos) (e :: es) [] pos) (tMeth C m sp [] E0 ta t) := by
  obtain ⟨f, fd, ps, hc, hm, F, b⟩ := c.ex
  exact pe_meth (pl := pl) he hc hm F (hr.mono hk) b .nil pass0 ha hst hpl ht
theorem qe_mt0 {pl : Sem Bool} (c : Met X.prog X.w X.K X.mg X.base k C m sp) (hr : Room j X.A) (hk : k ≤ j) (he : PE X o ta)
    (ht : eval (.Call (.Attribute o m apos) [] [] pos) X.env = (do
      let ov ← eval o X.env
      standAt apos.atName
      let (f, first) ← holding [ov] (getMethod ov m pl)
      callWith pos f first (backTo pos (starEach [] X.env)) (backToKw pos (keywordEach [] X.env))) := by rfl) :
    PE X (.Call (.Attribute o m apos) [] [] pos) (tMeth C m sp [] E0 ta tNil) := by
  obtain ⟨f, fd, ps, hc, hm, F, b⟩ := c.ex
  exact pe_meth0 (pl := pl) he hc hm F (hr.mono hk) b .nil pass0 ht
end

/-! ### heaps -/
/-- all that was tracked is as it was, but for what stands at S -/
def Keep (S : List Addr) (H H' : Hp) : Prop := ∀ b o, H b = some o → b ∉ S → H' b = some o
theorem Keep.refl {S : List Addr} (H : Hp) : Keep S H H := fun _ _ h _ => h
theorem Keep.trans {S : List Addr} {H H1 H2 : Hp} (a : Keep S H H1) (b : Keep S H1 H2) : Keep S H H2 := fun c o h hs => b c o (a c o h hs) hs
theorem Keep.mono {S S' : List Addr} {H H1 : Hp} (a : Keep S H H1) (h : ∀ b ∈ S, b ∈ S') : Keep S' H H1 := fun c o e hs => a c o e fun q => hs (h c q)
theorem same_keep {S : List Addr} {H H1 : Hp} (a : Same H H1) : Keep S H H1 := fun c o e _ => a c o e
theorem Keep.same {H H1 : Hp} (a : Keep [] H H1) : Same H H1 := fun c o e => a c o e (by simp)
/-- a store at S -/
theorem Keep.put {S : List Addr} {H : Hp} {a : Addr} {o : HO} (h : a ∈ S) : Keep S H (upd H a o) := fun b u e hs => by
  rw [upd_ne (fun q => hs (by rw [q]; exact h))]; exact e
/-- a new object -/
theorem same_new {H : Hp} {a : Addr} {o : HO} (h : H a = none) : Same H (upd H a o) := fun b u e => by
  rw [upd_ne (ne_of_none e h)]; exact e
/-- what stood in H0 stays, if all that may change is new to H0 -/
theorem Keep.back {S : List Addr} {H0 H H1 : Hp} (a : Same H0 H) (b : Keep S H H1) (h : ∀ c ∈ S, H0 c = none) : Same H0 H1 := fun c o e => b c o (a c o e) fun q => by
  rw [h c q] at e; cases e

theorem keepS {S : List Addr} {H0 H H1 : Hp} (a : Same H0 H) (b : Keep S H H1) (h : ∀ c ∈ S, H0 c = none) : Same H0 H1 := Keep.back a b h

/-! ### values -/
abbrev vi (x : Nat) : V := V.int (x : Int)
def ov : Option Nat → V
  | none => .non
  | some x => vi x
abbrev nl (l : List Nat) : List V := l.map vi
/-- the list f 0, .., f (n - 1) -/
abbrev arr {α : Type} (n : Nat) (f : Nat → α) : List α := (List.range n).map f
theorem arr_len {α : Type} {n : Nat} {f : Nat → α} : (arr n f).length = n := by simp [arr]
theorem arr_get {α : Type} {n : Nat} {f : Nat → α} {i : Nat} (h : i < n) : (arr n f)[i]? = some (f i) := by simp [arr, h]
theorem arr_set {α : Type} {n : Nat} {f : Nat → α} {i : Nat} {v : α} : (arr n f).set i v = arr n (fun x => if x = i then v else f x) := by
  apply List.ext_getElem?
  intro j
  simp only [arr, List.getElem?_set, List.length_map, List.length_range, List.getElem?_map]
  by_cases hj : j < n
  · by_cases e : i = j
    · subst e; simp [hj]
    · have e' : j ≠ i := fun q => e q.symm
      simp [hj, e, e']
  · by_cases e : i = j
    · subst e; simp [hj]
    · simp [hj, e]
theorem ixN_nat {n i : Nat} (h : i < n) : ixN n (i : Int) = some i := by
  unfold ixN
  rw [if_pos (by omega), if_pos (by omega)]
  rfl
theorem arr_at {n : Nat} {f : Nat → V} {i : Nat} (h : i < n) : atI (arr n f) (i : Int) = some (f i) := atI_nat (arr_get h)
theorem flat_nl (l : List Nat) : (nl l).all flatV = true := by
  induction l with
  | nil => rfl
  | cons a l ih =>
    show (flatV (vi a) && (nl l).all flatV) = true
    rw [ih]; rfl
theorem in_nl (x : Nat) (l : List Nat) : inV (vi x) (nl l) = decide (x ∈ l) := by
  unfold inV
  induction l with
  | nil => rfl
  | cons a l ih =>
    show (eqV (vi a) (vi x) || (nl l).any fun y => eqV y (vi x)) = decide (x ∈ a :: l)
    rw [ih]
    have e : eqV (vi a) (vi x) = decide (a = x) := by
      show decide ((a : Int) = (x : Int)) = decide (a = x)
      exact decide_eq_decide.mpr (by omega)
    rw [e]
    by_cases h : x = a
    · subst h; simp
    · have h' : ¬ a = x := fun q => h q.symm
      simp [h, h']
theorem vi_inj {a b : Nat} : (vi a = vi b) ↔ a = b := by
  constructor
  · intro h; injection h with h; omega
  · intro h; rw [h]
theorem dec_vi (a b : Nat) : decide (vi a = vi b) = decide (a = b) := by
  by_cases h : a = b
  · subst h; simp
  · have : ¬ vi a = vi b := fun q => h (vi_inj.mp q)
    simp [h, this]
theorem nl_get {l : List Nat} {i : Nat} {v : V} (h : (nl l)[i]? = some v) : ∃ x, l[i]? = some x ∧ v = vi x := by
  rw [List.getElem?_map] at h
  cases e : l[i]? with
  | none => rw [e] at h; cases h
  | some x => rw [e] at h; exact ⟨x, rfl, (Option.some.inj h).symm⟩
theorem small_le {n m : Nat} (h : n ≤ m) (hm : m ≤ 100000) : n < sizeLine := Nat.lt_of_le_of_lt (Nat.le_trans h hm) (by decide)
end Cherry
namespace Cherry
open PySem PySem.Spec PyProof.Rows L2
/-! ### loops over ranges of naturals -/
theorem for_rng {lo n : Nat} {g : TG} {tb : TS} {D : Ends} {σ : L2.St} {H : Hp} (Pv : Nat → L2.St → Hp → Prop) (h0 : Pv 0 σ H)
    (hs : ∀ i σ H, i < n → Pv i σ H → g (vi (lo + i)) σ H fun σ2 H2 => tb { D with nx := Pv (i + 1), ct := Pv (i + 1), bk := D.nx } σ2 H2) (hd : ∀ σ H, Pv n σ H → D.nx σ H) :
    ∃ W : Nat → Nat → L2.St → Hp → Prop, (∃ m, W 0 m σ H) ∧ ∀ i m σ H, W i m σ H →
      ((Itr (lo : Int) n).stop i H ∧ D.nx σ H) ∨ ((Itr (lo : Int) n).go i H ∧ ∃ N : L2.St → Hp → Prop, (∀ σ' H', N σ' H' → ∃ m', m' < m ∧ W (i + 1) m' σ' H') ∧ ∀ x H', (Itr (lo : Int) n).yld i H x H' → g x σ H' fun σ2 H2 => tb { D with nx := N, ct := N, bk := D.nx } σ2 H2) :=
  for_range (lo := (lo : Int)) (n := n) Pv h0 (fun i σ H hi p => by
    have e : V.int ((lo : Int) + (i : Int)) = vi (lo + i) := by rfl
    rw [e]; exact hs i σ H hi p) hd
theorem for_rng0 {n : Nat} {g : TG} {tb : TS} {D : Ends} {σ : L2.St} {H : Hp} (Pv : Nat → L2.St → Hp → Prop) (h0 : Pv 0 σ H)
    (hs : ∀ i σ H, i < n → Pv i σ H → g (vi i) σ H fun σ2 H2 => tb { D with nx := Pv (i + 1), ct := Pv (i + 1), bk := D.nx } σ2 H2) (hd : ∀ σ H, Pv n σ H → D.nx σ H) :
    ∃ W : Nat → Nat → L2.St → Hp → Prop, (∃ m, W 0 m σ H) ∧ ∀ i m σ H, W i m σ H →
      ((Itr 0 n).stop i H ∧ D.nx σ H) ∨ ((Itr 0 n).go i H ∧ ∃ N : L2.St → Hp → Prop, (∀ σ' H', N σ' H' → ∃ m', m' < m ∧ W (i + 1) m' σ' H') ∧ ∀ x H', (Itr 0 n).yld i H x H' → g x σ H' fun σ2 H2 => tb { D with nx := N, ct := N, bk := D.nx } σ2 H2) :=
  for_range (lo := 0) (n := n) Pv h0 (fun i σ H hi p => by rw [Int.zero_add]; exact hs i σ H hi p) hd
theorem lc_rng0 {n : Nat} {g : TG} {tt : TT} {te : TE} {vs : List Nat} {σ : L2.St} {H1 : Hp} {D : Addr} {Qd : Hp → Prop} (Pv : Nat → Hp → Prop) (h0 : Pv 0 (upd H1 D (.lst [])))
    (hs : ∀ i H, i < n → Pv i H → g (vi i) (wipe σ vs) H fun σ2 H2 => wipe σ2 vs = wipe σ vs ∧ tt σ2 H2 fun b H3 =>
      if b = true then te σ2 H3 fun y H4 => ∃ acc, H4 D = some (.lst acc) ∧ acc.length < sizeLine ∧ Pv (i + 1) (upd H4 D (.lst (acc ++ [y]))) else Pv (i + 1) H3) (hd : ∀ H, Pv n H → Qd H) :
    ∃ W : Nat → Nat → Hp → Prop, (∃ m, W 0 m (upd H1 D (.lst []))) ∧ ∀ i m H, W i m H →
      ((Itr 0 n).stop i H ∧ Qd H) ∨ ((Itr 0 n).go i H ∧ ∃ Nx : Hp → Prop, (∀ H', Nx H' → ∃ m', m' < m ∧ W (i + 1) m' H') ∧ ∀ x H', (Itr 0 n).yld i H x H' → g x (wipe σ vs) H' fun σ2 H2 => wipe σ2 vs = wipe σ vs ∧ tt σ2 H2 fun b H3 =>
        if b = true then te σ2 H3 fun y H4 => ∃ acc, H4 D = some (.lst acc) ∧ acc.length < sizeLine ∧ Nx (upd H4 D (.lst (acc ++ [y]))) else Nx H3) :=
  lc_range (lo := 0) (n := n) Pv h0 (fun i H hi p => by rw [Int.zero_add]; exact hs i H hi p) hd

/-! ### lists of pairs -/
abbrev tupV (e : Nat × Nat) : HO := .tup [vi e.1, vi e.2]
structure Tups (H : Hp) (ts : List Addr) (es : List (Nat × Nat)) : Prop where
  len : ts.length = es.length
  at_ : ∀ (i : Nat) (t : Addr) (e : Nat × Nat), ts[i]? = some t → es[i]? = some e → H t = some (tupV e)
/-- tuples stay -/
def TK (H H' : Hp) : Prop := ∀ (t : Addr) (xs : List V), H t = some (.tup xs) → H' t = some (.tup xs)
theorem TK.same {H H' : Hp} (s : Same H H') : TK H H' := fun t _ e => s t _ e
theorem TK.keep {S : List Addr} {H H' : Hp} (s : Keep S H H') (h : ∀ b ∈ S, ∀ xs, H b ≠ some (.tup xs)) : TK H H' := fun t xs e => s t _ e fun q => h t q xs e
theorem TK.put {H : Hp} {a : Addr} {o : HO} (h : ∀ xs, H a ≠ some (.tup xs)) : TK H (upd H a o) := fun t xs e => by
  rw [upd_ne (fun q => h xs (by rw [← q]; exact e))]; exact e
theorem TK.trans {H H1 H2 : Hp} (a : TK H H1) (b : TK H1 H2) : TK H H2 := fun t xs e => b t xs (a t xs e)
theorem Tups.tk {H H' : Hp} {ts : List Addr} {es : List (Nat × Nat)} (h : Tups H ts es) (s : TK H H') : Tups H' ts es := ⟨h.len, fun i t e h1 h2 => s t _ (h.at_ i t e h1 h2)⟩
theorem Tups.nil {H : Hp} : Tups H [] [] := ⟨rfl, fun i t e h => by simp at h⟩
theorem Tups.append {H : Hp} {ts ts' : List Addr} {es es' : List (Nat × Nat)} (h : Tups H ts es) (h' : Tups H ts' es') : Tups H (ts ++ ts') (es ++ es') := by
  refine ⟨by simp [h.len, h'.len], fun i t e h1 h2 => ?_⟩
  by_cases hi : i < ts.length
  · rw [List.getElem?_append_left hi] at h1
    rw [List.getElem?_append_left (by rw [← h.len]; exact hi)] at h2
    exact h.at_ i t e h1 h2
  · rw [List.getElem?_append_right (by omega)] at h1
    rw [List.getElem?_append_right (by rw [← h.len]; omega), ← h.len] at h2
    exact h'.at_ _ t e h1 h2
theorem Tups.one {H : Hp} {t : Addr} {e : Nat × Nat} (h : H t = some (tupV e)) : Tups H [t] [e] := by
  refine ⟨rfl, fun i t' e' h1 h2 => ?_⟩
  cases i with
  | zero => cases h1; cases h2; exact h
  | succ i => simp at h1
theorem Tups.get {H : Hp} {ts : List Addr} {es : List (Nat × Nat)} (h : Tups H ts es) {i : Nat} {v : V} (hv : (ts.map V.ref)[i]? = some v) :
    ∃ t e, v = .ref t ∧ es[i]? = some e ∧ ts[i]? = some t ∧ H t = some (tupV e) := by
  rw [List.getElem?_map] at hv
  cases e1 : ts[i]? with
  | none => rw [e1] at hv; cases hv
  | some t =>
    rw [e1] at hv
    have hi : i < es.length := by rw [← h.len]; exact (List.getElem?_eq_some_iff.mp e1).1
    exact ⟨t, es[i], (Option.some.inj hv).symm, List.getElem?_eq_getElem hi, rfl, h.at_ i t _ e1 (List.getElem?_eq_getElem hi)⟩
theorem Tups.get' {H : Hp} {ts : List Addr} {es : List (Nat × Nat)} (h : Tups H ts es) {i : Nat} {e : Nat × Nat} (he : es[i]? = some e) :
    ∃ t, ts[i]? = some t ∧ (ts.map V.ref)[i]? = some (.ref t) ∧ H t = some (tupV e) := by
  have hi : i < ts.length := by rw [h.len]; exact (List.getElem?_eq_some_iff.mp he).1
  refine ⟨ts[i], List.getElem?_eq_getElem hi, ?_, h.at_ i _ e (List.getElem?_eq_getElem hi) he⟩
  rw [List.getElem?_map, List.getElem?_eq_getElem hi]; rfl
/-- a list of pairs at l -/
structure PL (H : Hp) (l : Addr) (es : List (Nat × Nat)) : Prop where
  ex : ∃ ts : List Addr, H l = some (.lst (ts.map V.ref)) ∧ Tups H ts es
theorem PL.same {H H' : Hp} {l : Addr} {es : List (Nat × Nat)} (h : PL H l es) (s : Same H H') : PL H' l es := by
  obtain ⟨ts, h1, h2⟩ := h.ex
  exact ⟨ts, s _ _ h1, h2.tk (TK.same s)⟩
/-- a list is no tuple -/
theorem no_tup {H : Hp} {l : Addr} {xs : List V} (h : H l = some (.lst xs)) : ∀ b ∈ [l], ∀ ys, H b ≠ some (.tup ys) := fun b hb ys e => by
  rw [List.mem_singleton.mp hb, h] at e; cases e
theorem no_tup1 {H : Hp} {l : Addr} {xs : List V} (h : H l = some (.lst xs)) : ∀ ys, H l ≠ some (.tup ys) := fun ys e => by
  rw [h] at e; cases e
/-- an append of a pair -/
theorem PL.add {H : Hp} {l t : Addr} {es : List (Nat × Nat)} {e : Nat × Nat} (h : PL H l es) (ht : H t = some (tupV e)) (hn : es.length ≤ 100000) {Q : Hp → Prop}
    (q : PL (upd H l (.lst ((h.ex.choose ++ [t]).map V.ref))) l (es ++ [e]) → Q (upd H l (.lst ((h.ex.choose ++ [t]).map V.ref)))) : rAppend (.ref l) [.ref t] H (fun _ H' => Q H') := by
  have hs := h.ex.choose_spec
  generalize h.ex.choose = ts at *
  refine ⟨l, _, _, rfl, rfl, hs.1, by rw [List.length_map, hs.2.len]; exact small_le hn (by decide), ?_⟩
  have e1 : ts.map V.ref ++ [V.ref t] = (ts ++ [t]).map V.ref := by rw [List.map_append]; rfl
  rw [e1]
  refine q ⟨_, upd_same, ?_⟩
  have tk : TK H (upd H l (.lst ((ts ++ [t]).map V.ref))) := TK.put (no_tup1 hs.1)
  exact (hs.2.tk tk).append (.one (tk _ _ ht))
theorem PL.ne {H : Hp} {l a : Addr} {es : List (Nat × Nat)} (h : PL H l es) (ha : H a = none) : l ≠ a := by
  obtain ⟨ts, h1, _⟩ := h.ex
  exact ne_of_none h1 ha

/-! ### rows -/
structure Rws (H : Hp) (rs : List Addr) (n : Nat) (lk : Nat → List Nat) : Prop where
  len : rs.length = n
  at_ : ∀ (i : Nat) (r : Addr), rs[i]? = some r → H r = some (.lst (nl (lk i)))
theorem Rws.same {H H' : Hp} {rs : List Addr} {n : Nat} {lk : Nat → List Nat} (h : Rws H rs n lk) (s : Same H H') : Rws H' rs n lk := ⟨h.len, fun i r e => s _ _ (h.at_ i r e)⟩
theorem Rws.get {H : Hp} {rs : List Addr} {n : Nat} {lk : Nat → List Nat} (h : Rws H rs n lk) {i : Nat} (hi : i < n) :
    ∃ r, rs[i]? = some r ∧ (rs.map V.ref)[i]? = some (.ref r) ∧ H r = some (.lst (nl (lk i))) := by
  have hi' : i < rs.length := by rw [h.len]; exact hi
  refine ⟨rs[i], List.getElem?_eq_getElem hi', ?_, h.at_ i _ (List.getElem?_eq_getElem hi')⟩
  rw [List.getElem?_map, List.getElem?_eq_getElem hi']; rfl
structure RL (H : Hp) (l : Addr) (n : Nat) (lk : Nat → List Nat) : Prop where
  ex : ∃ rs : List Addr, H l = some (.lst (rs.map V.ref)) ∧ Rws H rs n lk
theorem RL.same {H H' : Hp} {l : Addr} {n : Nat} {lk : Nat → List Nat} (h : RL H l n lk) (s : Same H H') : RL H' l n lk := by
  obtain ⟨rs, h1, h2⟩ := h.ex
  exact ⟨rs, s _ _ h1, h2.same s⟩

/-! ### plain facts on lists -/
/-- two strictly ascending lists with the same members are one -/
theorem asc_ext {α : Type} {lt : α → α → Prop} (irr : ∀ a, ¬ lt a a) (tr : ∀ a b, lt a b → ¬ lt b a) : ∀ {l m : List α}, l.Pairwise lt → m.Pairwise lt → (∀ x, x ∈ l ↔ x ∈ m) → l = m
  | [], [], _, _, _ => rfl
  | [], b :: m, _, _, h => absurd ((h b).mpr (by simp)) (by simp)
  | a :: l, [], _, _, h => absurd ((h a).mp (by simp)) (by simp)
  | a :: l, b :: m, hl, hm, h => by
    obtain ⟨l1, l2⟩ := List.pairwise_cons.mp hl
    obtain ⟨m1, m2⟩ := List.pairwise_cons.mp hm
    have e : a = b := by
      rcases List.mem_cons.mp ((h a).mp (by simp)) with e | h1
      · exact e
      · rcases List.mem_cons.mp ((h b).mpr (by simp)) with e | h2
        · exact e.symm
        · exact absurd (m1 a h1) (tr _ _ (l1 b h2))
    subst e
    have : l = m := asc_ext irr tr l2 m2 fun x => by
      constructor
      · intro hx
        rcases List.mem_cons.mp ((h x).mp (List.mem_cons_of_mem _ hx)) with e | h1
        · subst e; exact absurd (l1 x hx) (irr x)
        · exact h1
      · intro hx
        rcases List.mem_cons.mp ((h x).mpr (List.mem_cons_of_mem _ hx)) with e | h1
        · subst e; exact absurd (m1 x hx) (irr x)
        · exact h1
    rw [this]
/-- what sorted says of numbers below n, none twice -/
theorem sorted_nl {n : Nat} {l : List Nat} {ns' : List Int} (hp : ns'.Perm (l.map fun x : Nat => (x : Int))) (hs : ns'.Pairwise (· ≤ ·)) (hd : l.Nodup) (hn : ∀ x ∈ l, x < n) :
    ns'.map V.int = nl ((List.range n).filter fun x => decide (x ∈ l)) := by
  have e : ns' = ((List.range n).filter fun x => decide (x ∈ l)).map fun x : Nat => (x : Int) := by
    have hd' : ns'.Nodup := by
      refine hp.nodup_iff.mpr ?_
      unfold List.Nodup
      rw [List.pairwise_map]
      exact hd.imp fun h => by omega
    refine asc_ext (lt := fun a b : Int => a < b) (fun a => Int.lt_irrefl a) (fun a b h => by omega) ?_ ?_ ?_
    · have := hs.and hd'
      exact this.imp fun h => by have := h.1; have := h.2; omega
    · rw [List.pairwise_map]
      refine List.Pairwise.filter _ ?_
      exact List.pairwise_lt_range.imp fun h => by omega
    · intro x
      rw [hp.mem_iff, List.mem_map, List.mem_map]
      constructor
      · rintro ⟨y, hy, rfl⟩
        exact ⟨y, List.mem_filter.mpr ⟨by simpa using hn y hy, by simpa using hy⟩, rfl⟩
      · rintro ⟨y, hy, rfl⟩
        exact ⟨y, by simpa using (List.mem_filter.mp hy).2, rfl⟩
  rw [e, List.map_map]
  rfl
theorem nl_snoc (l : List Nat) (x : Nat) : nl (l ++ [x]) = nl l ++ [vi x] := List.map_append
theorem nl_app (l m : List Nat) : nl (l ++ m) = nl l ++ nl m := List.map_append
theorem nl_len (l : List Nat) : (nl l).length = l.length := List.length_map ..
theorem nl_ints (l : List Nat) : nl l = (l.map fun x : Nat => (x : Int)).map V.int := by
  rw [List.map_map]; rfl

/-! ### edges -/
def ltE (a b : Nat × Nat) : Prop := a.1 < b.1 ∨ (a.1 = b.1 ∧ a.2 < b.2)
theorem ltE_irr (a : Nat × Nat) : ¬ ltE a a := by unfold ltE; omega
theorem ltE_asym (a b : Nat × Nat) (h : ltE a b) : ¬ ltE b a := by unfold ltE at *; omega
/-- the list of the edges of a graph -/
structure EOk (n : Nat) (es : List (Nat × Nat)) : Prop where
  lt : ∀ e ∈ es, e.1 < e.2 ∧ e.2 < n
  asc : es.Pairwise ltE
  n40 : n ≤ 40
/-- the neighbours, ascending -/
def lks (n : Nat) (es : List (Nat × Nat)) (x : Nat) : List Nat := (List.range n).filter fun y => decide ((x, y) ∈ es ∨ (y, x) ∈ es)
theorem mem_lks {n : Nat} {es : List (Nat × Nat)} {x y : Nat} : y ∈ lks n es x ↔ y < n ∧ ((x, y) ∈ es ∨ (y, x) ∈ es) := by
  unfold lks; rw [List.mem_filter]; simp
theorem EOk.gr {n : Nat} {es : List (Nat × Nat)} (h : EOk n es) : Gr n (lks n es) := by
  constructor
  · intro x y hy; exact (mem_lks.mp hy).1
  · intro x y hy
    obtain ⟨h1, h2⟩ := mem_lks.mp hy
    refine mem_lks.mpr ⟨?_, h2.symm⟩
    rcases h2 with h2 | h2
    · have := h.lt _ h2; simp only at this; omega
    · have := h.lt _ h2; simp only at this; omega
  · intro x hx
    obtain ⟨_, h2 | h2⟩ := mem_lks.mp hx
    · have := h.lt _ h2; simp only at this; omega
    · have := h.lt _ h2; simp only at this; omega
/-- the neighbours in the order in which the edges bring them -/
theorem lkOf_snoc (es : List (Nat × Nat)) (e : Nat × Nat) (x : Nat) : lkOf (es ++ [e]) x = lkOf es x ++ (if e.1 = x then [e.2] else if e.2 = x then [e.1] else []) := by
  unfold lkOf
  rw [List.filterMap_append]
  congr 1
  by_cases h1 : e.1 = x
  · simp [h1]
  · by_cases h2 : e.2 = x
    · simp [h1, h2]
    · simp [h1, h2]
theorem mem_lkOf {es : List (Nat × Nat)} {x y : Nat} (hlt : ∀ e ∈ es, e.1 < e.2) : y ∈ lkOf es x ↔ (x, y) ∈ es ∨ (y, x) ∈ es := by
  unfold lkOf
  rw [List.mem_filterMap]
  constructor
  · rintro ⟨⟨a, b⟩, he, h⟩
    simp only at h
    split at h
    · rename_i h1
      cases h; subst h1; exact .inl he
    · split at h
      · rename_i h1
        cases h; subst h1; exact .inr he
      · cases h
  · rintro (h | h)
    · exact ⟨_, h, by simp⟩
    · refine ⟨_, h, ?_⟩
      have := hlt _ h
      simp only at this ⊢
      rw [if_neg (by omega)]; simp
theorem lkOf_nodup (x : Nat) : ∀ {es : List (Nat × Nat)}, (∀ e ∈ es, e.1 < e.2) → es.Nodup → (lkOf es x).Nodup
  | [], _, _ => List.nodup_nil
  | e :: r, hlt, hd => by
    obtain ⟨h1, h2⟩ := List.nodup_cons.mp hd
    have hltr : ∀ e ∈ r, e.1 < e.2 := fun a ha => hlt a (List.mem_cons_of_mem _ ha)
    have ih := lkOf_nodup x hltr h2
    have he := hlt e (by simp)
    obtain ⟨a, b⟩ := e
    simp only at he
    by_cases ha : a = x
    · subst ha
      have e1 : lkOf ((a, b) :: r) a = b :: lkOf r a := by simp [lkOf]
      rw [e1]
      refine List.nodup_cons.mpr ⟨fun hm => ?_, ih⟩
      rcases (mem_lkOf hltr).mp hm with h | h
      · exact h1 h
      · have := hltr _ h; simp only at this; omega
    · by_cases hb : b = x
      · subst hb
        have e1 : lkOf ((a, b) :: r) b = a :: lkOf r b := by simp [lkOf, ha]
        rw [e1]
        refine List.nodup_cons.mpr ⟨fun hm => ?_, ih⟩
        rcases (mem_lkOf hltr).mp hm with h | h
        · have := hltr _ h; simp only at this; omega
        · exact h1 h
      · have e1 : lkOf ((a, b) :: r) x = lkOf r x := by simp [lkOf, ha, hb]
        rw [e1]; exact ih
theorem asc_nodup {es : List (Nat × Nat)} (h : es.Pairwise ltE) : es.Nodup := h.imp fun h e => by
  rw [e] at h; exact ltE_irr _ h
theorem EOk.len {n : Nat} {es : List (Nat × Nat)} (h : EOk n es) : es.length ≤ 1600 := by
  have := inj_len (fun (e : Nat × Nat) k => k = e.1 * 40 + e.2) es (List.range 1600) (asc_nodup h.asc) (fun e he => by
    have h1 := h.lt e he
    have h2 := h.n40
    exact ⟨e.1 * 40 + e.2, List.mem_range.mpr (by omega), rfl⟩) (fun e he f hf k h1 h2 => by
    have q1 := h.lt e he
    have q2 := h.lt f hf
    have q3 := h.n40
    have : e.1 = f.1 ∧ e.2 = f.2 := by omega
    exact Prod.ext this.1 this.2)
  rw [List.length_range] at this
  exact this
theorem lkOf_len (es : List (Nat × Nat)) (x : Nat) : (lkOf es x).length ≤ es.length := List.length_filterMap_le _ _
/-- sorted of the row at x -/
theorem sorted_row {n : Nat} {es : List (Nat × Nat)} (h : EOk n es) {x : Nat} {ns' : List Int} (hp : ns'.Perm ((lkOf es x).map fun x : Nat => (x : Int))) (hs : ns'.Pairwise (· ≤ ·)) :
    ns'.map V.int = nl (lks n es x) := by
  have hlt : ∀ e ∈ es, e.1 < e.2 := fun e he => (h.lt e he).1
  rw [sorted_nl hp hs (lkOf_nodup x hlt (asc_nodup h.asc)) (n := n)]
  · congr 1
    unfold lks
    apply List.filter_congr
    intro y hy
    exact decide_eq_decide.mpr (mem_lkOf hlt)
  · intro y hy
    rcases (mem_lkOf hlt).mp hy with h' | h'
    · have := h.lt _ h'; simp only at this; omega
    · have := h.lt _ h'; simp only at this; omega

/-! ### sorting pairs -/
/-- the pair that a value leads to -/
def kOf (H : Hp) : V → Int × Int
  | .ref t => match H t with
    | some (.tup [.int a, .int b]) => (a, b)
    | _ => (0, 0)
  | _ => (0, 0)
def peOf (H : Hp) (v : V) : Nat × Nat := ((kOf H v).1.toNat, (kOf H v).2.toNat)
def unref : V → Addr
  | .ref t => t
  | _ => 0
theorem kOf_at {H : Hp} {t : Addr} {e : Nat × Nat} (h : H t = some (tupV e)) : kOf H (.ref t) = ((e.1 : Int), (e.2 : Int)) := by
  show (match H t with
    | some (.tup [.int a, .int b]) => (a, b)
    | _ => (0, 0)) = ((e.1 : Int), (e.2 : Int))
  rw [h]
theorem peOf_at {H : Hp} {t : Addr} {e : Nat × Nat} (h : H t = some (tupV e)) : peOf H (.ref t) = e := by
  unfold peOf; rw [kOf_at h]; simp
theorem Tups.mem {H : Hp} {ts : List Addr} {es : List (Nat × Nat)} (h : Tups H ts es) {v : V} (hv : v ∈ ts.map V.ref) : ∃ t e, v = .ref t ∧ e ∈ es ∧ H t = some (tupV e) := by
  obtain ⟨i, hi, e⟩ := List.mem_iff_getElem.mp hv
  obtain ⟨t, e', q1, q2, q3, q4⟩ := h.get (i := i) (v := v) (by rw [List.getElem?_eq_getElem hi, e])
  exact ⟨t, e', q1, List.mem_of_getElem? q2, q4⟩
theorem Tups.es_eq {H : Hp} {ts : List Addr} {es : List (Nat × Nat)} (h : Tups H ts es) : (ts.map V.ref).map (peOf H) = es := by
  apply List.ext_getElem?
  intro i
  cases e : es[i]? with
  | none =>
    have hi := List.getElem?_eq_none_iff.mp e
    refine List.getElem?_eq_none_iff.mpr ?_
    rw [List.length_map, List.length_map, h.len]; exact hi
  | some x =>
    obtain ⟨t, q1, q2, q3⟩ := h.get' e
    rw [List.getElem?_map, q2]
    show some (peOf H (.ref t)) = some x
    rw [peOf_at q3]
theorem Tups.of_vals {H : Hp} {ys : List V} (h : ∀ v ∈ ys, ∃ t e, v = .ref t ∧ H t = some (tupV e)) : ∃ ts, ys = ts.map V.ref ∧ Tups H ts (ys.map (peOf H)) := by
  refine ⟨ys.map unref, ?_, by simp, ?_⟩
  · rw [List.map_map]
    refine (List.map_id _).symm.trans (List.map_congr_left fun v hv => ?_)
    obtain ⟨t, e, rfl, _⟩ := h v hv
    rfl
  · intro i t e h1 h2
    rw [List.getElem?_map] at h1 h2
    cases q : ys[i]? with
    | none => rw [q] at h1; cases h1
    | some v =>
      rw [q] at h1 h2
      obtain ⟨t', e', rfl, h3⟩ := h v (List.mem_of_getElem? q)
      cases h1
      have h2 := Option.some.inj h2
      rw [peOf_at h3] at h2
      rw [← h2]; exact h3
/-- what sorted says of a list of pairs -/
theorem sorted_pairs {H : Hp} {ts : List Addr} {es : List (Nat × Nat)} (h : Tups H ts es) :
    (∀ x ∈ ts.map V.ref, ∃ t, x = V.ref t ∧ H t = some (.tup [.int (kOf H x).1, .int (kOf H x).2])) ∧
    ∀ ys, SrtO.Srtd (ltP (kOf H)) ys → ys.Perm (ts.map V.ref) → ∃ ts' es', ys = ts'.map V.ref ∧ Tups H ts' es' ∧ es'.Perm es ∧ es'.Pairwise (fun a b => ¬ ltE b a) := by
  refine ⟨fun x hx => ?_, fun ys hs hp => ?_⟩
  · obtain ⟨t, e, rfl, _, h1⟩ := h.mem hx
    exact ⟨t, rfl, by rw [kOf_at h1]; exact h1⟩
  · have hm : ∀ v ∈ ys, ∃ t e, v = .ref t ∧ H t = some (tupV e) := fun v hv => by
      obtain ⟨t, e, h1, _, h2⟩ := h.mem (hp.mem_iff.mp hv)
      exact ⟨t, e, h1, h2⟩
    obtain ⟨ts', e1, e2⟩ := Tups.of_vals hm
    refine ⟨ts', _, e1, e2, ?_, ?_⟩
    · have := hp.map (peOf H)
      rw [h.es_eq] at this
      exact this
    · rw [List.pairwise_map]
      refine List.Pairwise.imp_of_mem ?_ hs
      intro a b ha hb hlt hlE
      obtain ⟨t, e, rfl, h1⟩ := hm a ha
      obtain ⟨u, f, rfl, h2⟩ := hm b hb
      rw [peOf_at h1, peOf_at h2] at hlE
      have : ltP (kOf H) (.ref u) (.ref t) = true := by
        refine SrtO.lexB_iff.mpr ?_
        rw [kOf_at h1, kOf_at h2]
        unfold ltE at hlE
        show (f.1 : Int) < (e.1 : Int) ∨ ((f.1 : Int) = (e.1 : Int) ∧ (f.2 : Int) < (e.2 : Int))
        omega
      rw [hlt] at this
      cases this
/-- pairs as data -/
abbrev pdT (e : Nat × Nat) : PyData := .tuple [.int (e.1 : Int), .int (e.2 : Int)]
theorem dp_tup {K : PySem.W.Frag} {H : Hp} {t : Addr} {e : Nat × Nat} (h : H t = some (tupV e)) : Dp K H (.ref t) (pdT e) := .tup (SqT.of h) (.cons (.int _) (.cons (.int _) .nil))
theorem eqv_pdT (e f : Nat × Nat) : PyData.eqv (pdT e) (pdT f) = decide (e = f) := by
  obtain ⟨a, b⟩ := e
  obtain ⟨c, d⟩ := f
  show (((a : Int) == (c : Int)) && (((b : Int) == (d : Int)) && true)) = decide ((a, b) = (c, d))
  by_cases h1 : a = c
  · by_cases h2 : b = d
    · subst h1 h2; simp
    · have : ¬ (b : Int) = (d : Int) := by omega
      simp [h2, this]
  · have : ¬ (a : Int) = (c : Int) := by omega
    simp [h1, this]
theorem shaped_pdT (e : Nat × Nat) : SeqAt.shaped (pdT e) = true := by
  unfold SeqAt.shaped
  simp [PyData.canLay0, PyData.canLayAll0, PyData.depth, PyData.depthAll]

/-! ### rules whose reading names K (for the inside of a comprehension) -/
theorem ixk {X : Cx} (K : PySem.W.Frag) (h : X.K = K) : IxR X (rIxL K) := by subst h; exact ix_list
theorem ixt {X : Cx} (K : PySem.W.Frag) (h : X.K = K) : IxR X (rIxT K) := by subst h; exact ix_tup
theorem lenk {X : Cx} (K : PySem.W.Frag) (h : X.K = K) : CallR X (.builtin "len") (fun xs H Q => ∃ p ys, xs = [.ref p] ∧ (SqL K H p ys ∨ SqT K H p ys) ∧ Q (.int ys.length) H) := by subst h; exact call_len_seq
theorem sortIk {X : Cx} (K : PySem.W.Frag) (h : X.K = K) : CallR X (.builtin "sorted") (rSortedI K) := by subst h; exact cr_sortedI
theorem inSk {X : Cx} (K : PySem.W.Frag) (h : X.K = K) : OpR X (compareOp .In) (rIn K false) := by subst h; exact op_in_seq
theorem notInSk {X : Cx} (K : PySem.W.Frag) (h : X.K = K) : OpR X (compareOp .NotIn) (rIn K true) := by subst h; exact op_notIn_seq
theorem isik {X : Cx} (K : PySem.W.Frag) (h : X.K = K) : CallR X (.builtin "isinstance") (rIsi K) := by subst h; exact call_isi
theorem fldk {X : Cx} (K : PySem.W.Frag) (h : X.K = K) {e : Expr} {f : Str} {pos : Pos} {ta : TE} (he : PE X e ta) (hb : attributeBase e f X.env (eval e X.env) = eval e X.env) : PE X (.Attribute e f pos) (tFld K ta f) := by subst h; exact pe_fld he hb
theorem neDk {X : Cx} (K : PySem.W.Frag) (h : X.K = K) (hu : X.A.units + 64 < cLine) : OpR X (compareOp .NotEq) (rNeD K) := by subst h; exact op_neD hu

/-! ### isinstance, tests whose answer is known -/
theorem isi_at {K : PySem.W.Frag} {H : Hp} {x : V} {a b : String} {r : Bool} {Q : VK} (t : TyOf K H x (.type a)) (h : kitB a b = some r) (q : Q (.bl r) H) : rIsi K [x, .ty b] H Q :=
  ⟨x, .ty b, .type a, .type b, r, rfl, .ty b, .base t, kit_ty h, q⟩
theorem k_ii : kitB "int" "int" = some true := by decide +kernel
theorem k_ib : kitB "int" "bool" = some false := by decide +kernel
theorem k_il : kitB "int" "list" = some false := by decide +kernel
theorem k_it : kitB "int" "tuple" = some false := by decide +kernel
theorem k_ll : kitB "list" "list" = some true := by decide +kernel
theorem k_tt : kitB "tuple" "tuple" = some true := by decide +kernel
theorem k_tl : kitB "tuple" "list" = some false := by decide +kernel
theorem bT {p : Prop} [Decidable p] (h : p) : V.bl (decide p) = V.bl true := congrArg V.bl (decide_eq_true h)
theorem bF {p : Prop} [Decidable p] (h : ¬ p) : V.bl (decide p) = V.bl false := congrArg V.bl (decide_eq_false h)
theorem ifT {c : Bool} {A B : Prop} (hc : c = true) (h : A) : if c = true then A else B := by rw [if_pos hc]; exact h
theorem ifF {c : Bool} {A B : Prop} (hc : c = false) (h : B) : if c = true then A else B := by rw [if_neg (by rw [hc]; decide)]; exact h
/-- tuple <= that fails: the right one stands before the left one -/
theorem leT_false {a b c d : Int} (h : c < a ∨ (c = a ∧ d < b)) :
    Ob.lexAt (fun j => decide (([a, b] : List Int).getD j 0 = ([c, d] : List Int).getD j 0)) (fun j => decide (([a, b] : List Int).getD j 0 ≤ ([c, d] : List Int).getD j 0)) (decide (([a, b] : List Int).length ≤ ([c, d] : List Int).length)) 0 (min ([a, b] : List Int).length ([c, d] : List Int).length) = false := by
  show (if decide (a = c) = true then (if decide (b = d) = true then decide (2 ≤ 2) else decide (b ≤ d)) else decide (a ≤ c)) = false
  by_cases h1 : a = c
  · rw [if_pos (decide_eq_true h1), if_neg (by simp; omega)]
    exact decide_eq_false (by omega)
  · rw [if_neg (by simp [h1])]
    exact decide_eq_false (by omega)
end Cherry
/-! own rules: min, max of a pair; sorted of a dict whose keys are pairs -/
namespace Cherry
open PySem PySem.Spec PyProof.Rows L2
section
variable {prog : Program} {w : World} {A : Around} {E : Value → Shared → Prop} {s : Shared}
theorem min_tup {l : Addr} {a b : Int} {t u : Tok} {Q : Value → Shared → Prop} (hh : A.handled = none) (hT : s.heap.IsTuple l (intItems #[(a, t), (b, u)]))
    (h : ∀ h' tk, (∀ c o, s.heap.get? c = some o → h'.get? c = some o) → Q (if b < a then .int b u else .int a t) { s with heap := h', toks := tk }) :
    wpAny (model prog w) A (call (.builtin "min") [.ref l]) Q E s := by
  refine call_min_walk (wpAny_pyIter_tuple hT ?_)
  obtain ⟨o0, ho0, _⟩ := id hT
  have hlt : l < s.heap.objs.size := Heap.lt_size ho0
  refine ⟨_, [_, l], [_], _, _, _, _, rfl, Walks.tuple (A := A.in1) hh _ l (Nat.ne_of_lt hlt) (intItems #[(a, t), (b, u)]),
    ⟨⟨_, Heap.get?_push_size _ rfl, rfl, rfl⟩, hT.push _⟩, fun c hc => ?_, by simp [intItems], CmpOf.ints_lt (numAt #[(a, t), (b, u)]) (fun _ _ => intItems_at), fun v h' tk hP hk => ?_⟩
  · show c < (s.heap.push _).objs.size
    rw [Heap.size_push]
    rcases List.mem_cons.mp hc with rfl | hc
    · exact Nat.lt_succ_self _
    · rcases List.mem_cons.mp hc with rfl | hc
      · exact Nat.lt_succ_of_lt hlt
      · cases hc
  · have hold : ∀ c o, s.heap.get? c = some o → h'.get? c = some o := fun c o e => by
      refine hk c o (fun hm => ?_) (Heap.get?_push_of_some _ e)
      rcases List.mem_cons.mp hm with e1 | hm
      · have := Heap.lt_size e; rw [e1] at this; exact Nat.lt_irrefl _ this
      · cases hm
    have := h h' tk hold
    have hv : v = if b < a then Value.int b u else Value.int a t := by
      have hP' : (intItems #[(a, t), (b, u)])[argBest (fun i j => decide (numAt #[(a, t), (b, u)] i < numAt #[(a, t), (b, u)] j)) 1]? = some v := by
        have hsz2 : (intItems #[(a, t), (b, u)]).size - 1 = 1 := by simp [intItems]
        rw [← hsz2]; exact hP
      by_cases hba : b < a
      · have e : argBest (fun i j => decide (numAt #[(a, t), (b, u)] i < numAt #[(a, t), (b, u)] j)) 1 = 1 := by simp [argBest, numAt, hba]
        rw [e] at hP'
        simpa [intItems, hba] using hP'.symm
      · have e : argBest (fun i j => decide (numAt #[(a, t), (b, u)] i < numAt #[(a, t), (b, u)] j)) 1 = 0 := by simp [argBest, numAt, hba]
        rw [e] at hP'
        simpa [intItems, hba] using hP'.symm
    rw [hv]; exact this
theorem max_tup {l : Addr} {a b : Int} {t u : Tok} {Q : Value → Shared → Prop} (hh : A.handled = none) (hT : s.heap.IsTuple l (intItems #[(a, t), (b, u)]))
    (h : ∀ h' tk, (∀ c o, s.heap.get? c = some o → h'.get? c = some o) → Q (if b > a then .int b u else .int a t) { s with heap := h', toks := tk }) :
    wpAny (model prog w) A (call (.builtin "max") [.ref l]) Q E s := by
  refine call_max_walk (wpAny_pyIter_tuple hT ?_)
  obtain ⟨o0, ho0, _⟩ := id hT
  have hlt : l < s.heap.objs.size := Heap.lt_size ho0
  refine ⟨_, [_, l], [_], _, _, _, _, rfl, Walks.tuple (A := A.in1) hh _ l (Nat.ne_of_lt hlt) (intItems #[(a, t), (b, u)]),
    ⟨⟨_, Heap.get?_push_size _ rfl, rfl, rfl⟩, hT.push _⟩, fun c hc => ?_, by simp [intItems], CmpOf.ints_gt (numAt #[(a, t), (b, u)]) (fun _ _ => intItems_at), fun v h' tk hP hk => ?_⟩
  · show c < (s.heap.push _).objs.size
    rw [Heap.size_push]
    rcases List.mem_cons.mp hc with rfl | hc
    · exact Nat.lt_succ_self _
    · rcases List.mem_cons.mp hc with rfl | hc
      · exact Nat.lt_succ_of_lt hlt
      · cases hc
  · have hold : ∀ c o, s.heap.get? c = some o → h'.get? c = some o := fun c o e => by
      refine hk c o (fun hm => ?_) (Heap.get?_push_of_some _ e)
      rcases List.mem_cons.mp hm with e1 | hm
      · have := Heap.lt_size e; rw [e1] at this; exact Nat.lt_irrefl _ this
      · cases hm
    have := h h' tk hold
    have hv : v = if b > a then Value.int b u else Value.int a t := by
      have hP' : (intItems #[(a, t), (b, u)])[argBest (fun i j => decide (numAt #[(a, t), (b, u)] i > numAt #[(a, t), (b, u)] j)) 1]? = some v := by
        have hsz2 : (intItems #[(a, t), (b, u)]).size - 1 = 1 := by simp [intItems]
        rw [← hsz2]; exact hP
      by_cases hba : b > a
      · have e : argBest (fun i j => decide (numAt #[(a, t), (b, u)] i > numAt #[(a, t), (b, u)] j)) 1 = 1 := by simp [argBest, numAt, hba]
        rw [e] at hP'
        simpa [intItems, hba] using hP'.symm
      · have e : argBest (fun i j => decide (numAt #[(a, t), (b, u)] i > numAt #[(a, t), (b, u)] j)) 1 = 0 := by simp [argBest, numAt, hba]
        rw [e] at hP'
        simpa [intItems, hba] using hP'.symm
    rw [hv]; exact this
end
def rMinT (K : PySem.W.Frag) : List V → Hp → VK → Prop := fun vs H Q => ∃ (t : Addr) (a b : Int), vs = [V.ref t] ∧ SqT K H t [.int a, .int b] ∧ Q (.int (if b < a then b else a)) H
def rMaxT (K : PySem.W.Frag) : List V → Hp → VK → Prop := fun vs H Q => ∃ (t : Addr) (a b : Int), vs = [V.ref t] ∧ SqT K H t [.int a, .int b] ∧ Q (.int (if b > a then b else a)) H
section
variable {X : Cx}
theorem cr_minT (hc : X.calm = true) : CallR X (.builtin "min") (rMinT X.K) := by
  intro pins s σ H vs us Q I r h
  obtain ⟨t, a, b, rfl, hs, q⟩ := h
  obtain ⟨its, rv, hl, _⟩ := I.tuple hs
  rw [Vals.ref1 r]
  obtain ⟨u1, u2, rfl, r1, r2⟩ := vals2 rv
  obtain ⟨t1, rfl⟩ := r1
  obtain ⟨t2, rfl⟩ := r2
  have hT : s.heap.IsTuple t (intItems #[(a, t1), (b, t2)]) := by
    have e : intItems #[(a, t1), (b, t2)] = #[Value.int a t1, Value.int b t2] := by simp [intItems]
    rw [e]; exact hl
  refine min_tup (I.ok.hd hc) hT fun h' tk hk => ⟨.int _, H, I.kept hk, ?_, q⟩
  split
  · exact ⟨_, rfl⟩
  · exact ⟨_, rfl⟩
theorem cr_maxT (hc : X.calm = true) : CallR X (.builtin "max") (rMaxT X.K) := by
  intro pins s σ H vs us Q I r h
  obtain ⟨t, a, b, rfl, hs, q⟩ := h
  obtain ⟨its, rv, hl, _⟩ := I.tuple hs
  rw [Vals.ref1 r]
  obtain ⟨u1, u2, rfl, r1, r2⟩ := vals2 rv
  obtain ⟨t1, rfl⟩ := r1
  obtain ⟨t2, rfl⟩ := r2
  have hT : s.heap.IsTuple t (intItems #[(a, t1), (b, t2)]) := by
    have e : intItems #[(a, t1), (b, t2)] = #[Value.int a t1, Value.int b t2] := by simp [intItems]
    rw [e]; exact hl
  refine max_tup (I.ok.hd hc) hT fun h' tk hk => ⟨.int _, H, I.kept hk, ?_, q⟩
  split
  · exact ⟨_, rfl⟩
  · exact ⟨_, rfl⟩
/-- the key of a pair -/
def keyE (e : Nat × Nat) : List L2.Key := [Sum.inl (e.1 : Int), Sum.inl (e.2 : Int)]
/-- sorted(d), d a dict whose keys are pairs, of any size -/
def rSortedDT : List V → Hp → VK → Prop := fun vs H Q => ∃ (d : Addr) (kvs : List (List L2.Key × V)) (es : List (Nat × Nat)), vs = [V.ref d] ∧ H d = some (.dT kvs) ∧ kvs.map (·.1) = es.map keyE ∧
  ∀ (ts : List Addr) (es' : List (Nat × Nat)) (p : Addr), Tups H ts es' → es'.Perm es → es'.Pairwise (fun a b => ¬ ltE b a) → H p = none → Q (.ref p) (upd H p (.lst (ts.map V.ref)))
theorem cr_sortedDT (hc : X.calm = true) : CallR X (.builtin "sorted") rSortedDT := by
  intro pins s σ H xs us Q I r q
  obtain ⟨d, kvs, es0, rfl, hd, hks, q⟩ := q
  obtain ⟨u, rfl, rx⟩ := r.one
  cases rx
  obtain ⟨z, hs, ks, pr, o, es, ep, ho, hx, hdt, he, hn⟩ := (show ObjOk X.prog X.w H s.heap d (.dT kvs) from I.hok _ _ hd)
  have l1 : es.size = ks.length := size_of_entries he
  have l2 : kvs.length = ks.length := Paired.length pr
  refine Calls.call_function_entry PyProof.Rows.kind_sorted PyProof.Rows.plain_sorted PyProof.Rows.entry_sorted (PyProof.Rows.args_sorted1 _) ?_
  unfold Builtin.«sorted»
  refine wpAny_bind (m := checkCount "sorted" 1 1 _) (wpAny_pure ?_)
  refine wpAny_bind (PySem.W.kdu_collect (A := X.A.in1) (kdl_raw hs hx hdt) (I.ok.hd hc) ho (by omega) fun h' tk acc kp it => ?_)
  have ea : acc.toList = ks.map fun x => Value.ref x.2.1 := by
    have hl : acc.toList.length = ks.length := by rw [Array.length_toList, it.1]; exact l1
    apply List.ext_getElem?
    intro j
    rw [List.getElem?_map]
    cases hj : acc.toList[j]? with
    | none =>
      have h1 := List.getElem?_eq_none_iff.mp hj
      rw [List.getElem?_eq_none (by omega)]
      all_goals rfl
    | some v =>
      obtain ⟨en, hen, hv⟩ := it.2 j v (by rw [← Array.getElem?_toList]; exact hj)
      have qe := entry_at he j
      rw [hen] at qe
      cases hb : ks[j]? with
      | none =>
        rw [hb] at qe
        exact nomatch (show some en = none from qe)
      | some b =>
        rw [hb] at qe
        have e2 : en = entryOfKey (tupleKind (mixKind X.prog X.w)) b := Option.some.inj qe
        rw [hv, e2]
        all_goals rfl
  -- the keys as pairs
  have hT : Tups H (ks.map fun x => x.2.1) es0 := by
    have hlen : kvs.length = es0.length := by
      have := congrArg List.length hks
      rw [List.length_map, List.length_map] at this
      exact this
    refine ⟨by rw [List.length_map, ← l2, hlen], fun i t e h1 h2 => ?_⟩
    rw [List.getElem?_map] at h1
    cases hk : ks[i]? with
    | none => rw [hk] at h1; cases h1
    | some kx =>
      rw [hk] at h1
      cases h1
      have hki : (kvs.map (·.1))[i]? = some (keyE e) := by rw [hks, List.getElem?_map, h2]; rfl
      rw [List.getElem?_map] at hki
      cases hv : kvs[i]? with
      | none => rw [hv] at hki; cases hki
      | some kv =>
        rw [hv] at hki
        have e1 : kv.1 = keyE e := Option.some.inj hki
        have : ∀ (kvs : List (List L2.Key × V)) (ks : List (List L2.Key × Addr × Value)) (i : Nat), Paired (fun (p : List L2.Key × V) (q : List L2.Key × Addr × Value) => p.1 = q.1 ∧ H q.2.1 = some (.tup (p.1.map kV)) ∧ RelV p.2 q.2.2) kvs ks →
            ∀ kv kx, kvs[i]? = some kv → ks[i]? = some kx → H kx.2.1 = some (.tup (kv.1.map kV)) := by
          intro kvs ks i pr
          induction pr generalizing i with
          | nil => intro kv kx h; simp at h
          | cons h t ih =>
            intro kv kx h1 h2
            cases i with
            | zero => cases h1; cases h2; exact h.2.1
            | succ i => exact ih i kv kx (by simpa using h1) (by simpa using h2)
        have := this kvs ks i pr kv kx hv hk
        rw [e1] at this
        exact this
  obtain ⟨c1, c2⟩ := sorted_pairs hT
  have hal : acc.toList.length ≤ sizeLine := by rw [ea, List.length_map, ← l2]; exact z
  have I1 : L2.Inv X pins σ H { s with heap := h', toks := tk } := I.kept kp
  have e3 : acc.toList = (ks.map fun x => x.2.1).map Value.ref := by rw [ea, List.map_map]; rfl
  have hrefs : ∀ u ∈ acc.toList, ∃ a, u = Value.ref a := fun u hu => by
    rw [e3] at hu
    obtain ⟨a, _, rfl⟩ := List.mem_map.mp hu
    exact ⟨a, rfl⟩
  have hback : acc.toList.map backV = (ks.map fun x => x.2.1).map V.ref := by
    rw [e3, List.map_map]; rfl
  refine wpAny_bind (wpAny_newList ?_ hal)
  have hoL : (h'.push (seqObj "list" acc.toList.toArray 0)).get? h'.objs.size = some (seqObj "list" acc.toList.toArray 0) := Heap.get?_push_size _ rfl
  show wpAny _ _ _ _ _ { s with heap := h'.push (seqObj "list" acc.toList.toArray 0), toks := tk }
  refine wpAny_bind (wpAny_holding (wpAny_call_entry PyProof.Rows.slot_list_sort ⟨_, hoL, rfl⟩ PyProof.Rows.entry_list_sort
    (SrtO.list_sort_ord (s := { s with heap := h'.push (seqObj "list" acc.toList.toArray 0), toks := tk }) (SrtO.swo_lex fun u => kOf H (backV u)) hoL hal
      (fun h2 => SrtO.pairs_sortableO (by omega) (fun v hv => ?_) fun o e => ?_) fun out h1 h2 => ⟨_, rfl, ?_⟩) (PyProof.Rows.args_list_sort _)))
  · have hm : backV v ∈ (ks.map fun x => x.2.1).map V.ref := by rw [← hback]; exact List.mem_map.mpr ⟨_, hv, rfl⟩
    obtain ⟨a, rfl⟩ := hrefs v hv
    obtain ⟨t, et, ht⟩ := c1 _ hm
    cases et
    obtain ⟨_, its2, r2, o2, ho2, hc2, n2, hd2⟩ := I1.hok _ _ ht
    obtain ⟨u1, u2, rfl, ri, rj⟩ := vals2 r2
    obtain ⟨t1, rfl⟩ := ri
    obtain ⟨t2, rfl⟩ := rj
    exact ⟨a, o2, t1, t2, n2, rfl, Heap.get?_push_of_some _ ho2, hc2, hd2⟩
  · have e' : some o = some (seqObj "list" acc.toList.toArray 0) := e.symm.trans hoL
    cases e'
    intro c
    exact absurd (Value.type.inj c) (by decide)
  · have h3 : ∀ u ∈ out, ∃ a, u = Value.ref a := fun u hu => hrefs u (h2.perm.mem_iff.mp hu)
    obtain ⟨e', he'⟩ := PyProof.Rows.sortedHeap_at (vs := acc.toList) (out := out.toArray) hoL
    have hperm : (out.map backV).Perm ((ks.map fun x => x.2.1).map V.ref) := by
      rw [← hback]; exact h2.perm.map backV
    obtain ⟨ts', es', q1, q2, q3, q4⟩ := c2 (out.map backV) (SrtO.srtd_map h1) hperm
    have hlen : (ts'.map V.ref).length ≤ sizeLine := by
      rw [← q1, hperm.length_eq, List.length_map, List.length_map, ← l2]; exact z
    refine wpAny_pure ⟨_, rfl, .ref h'.objs.size, upd H h'.objs.size (.lst (ts'.map V.ref)), I1.laid (t' := tk) (fun b u e => ?_) (Nat.le_refl _)
      (show ObjOk X.prog X.w _ _ _ (.lst (ts'.map V.ref)) from ⟨hlen, out, e', by rw [← q1]; exact vals_back h3, he'⟩), rfl, q ts' es' _ q2 q3 q4 (I1.hok.fresh (Nat.le_refl _))⟩
    have hb : b < h'.objs.size := Heap.lt_size e
    rw [PyProof.Rows.sortedHeap_old (Nat.ne_of_lt hb) (by rw [size_push']; exact Nat.lt_succ_of_lt hb)]
    exact Heap.get?_push_of_some _ e
end
end Cherry
namespace Cherry
open PySem PySem.Spec PyProof.Rows L2
section
variable {P : Program} {w : World} {K : PySem.W.Frag} {mg : Str → Option Value} {base : Heap}

def spMixed : Sp := fun vs H Q _ => ∃ a k : Int, vs = [.int a, .int k] ∧ ∀ r : Int, 0 ≤ r → r < 2147483647 → Q (.int r) H
abbrev sMixed : Stmt := top 26
theorem scMixed : FnScope ["_law_number", "_law_k", "_law_step"] ["_law_number", "_law_k"] (defScope sMixed) := ⟨rfl, rfl, rfl, by decide +kernel, rfl, by decide +kernel, by decide +kernel⟩
theorem ok_mixed (D : Dfn K mg "_law_mixed" sMixed ["_law_number", "_law_k"]) : Cal P w K mg base 1 "_law_mixed" spMixed := by
  refine D.cal scMixed (fun vs H Q E h => ?_) (fun f cdv A outer s H vs Q E hr h => ?_)
  · obtain ⟨a, k, rfl, _⟩ := h
    rfl
  · obtain ⟨a, k, rfl, q⟩ := h
    refine ⟨_, (pss_cons (ps_set (i := 2) scMixed.nd rfl (Or.inl rfl) (pe_op op_mod (pe_op op_add (pe_op op_add (pe_op op_mul (pv 0) pe_int) (pe_op op_mul (pv 1) pe_int)) pe_int) pe_int))
      (pss_one (ps_ret (pe_op op_mod (pe_op op_add (pe_op op_mul (pv 2) (pe_op op_add (pe_op op_fdiv (pv 2) pe_int) pe_int)) (pv 1)) pe_int)))), ?_⟩
    refine ⟨_, rfl, _, _, rfl, rfl, .inr ⟨by decide, by decide⟩, _, rfl, _, _, rfl, rfl, .inr ⟨by decide, by decide⟩, _, _, rfl, rfl, _, _, rfl, rfl, _, _, rfl, rfl, (by show (0 : Int) < 2147483647; decide), ?_⟩
    have h1 := Int.emod_nonneg (a * 48271 + k * 69621 + 12345) (show (2147483647 : Int) ≠ 0 by decide)
    have h2 := Int.emod_lt_of_pos (a * 48271 + k * 69621 + 12345) (show (0 : Int) < 2147483647 by decide)
    refine ⟨_, rfl, _, rfl, _, _, rfl, rfl, ⟨by decide, by decide⟩, _, _, rfl, rfl, _, _, rfl, rfl, .inl ⟨by omega, by omega⟩, _, rfl, _, _, rfl, rfl, _, _, rfl, rfl, (by show (0 : Int) < 2147483647; decide), ?_⟩
    exact q _ (Int.emod_nonneg _ (by decide)) (Int.emod_lt_of_pos _ (by decide))

/-- the draws at d: the numbers at l, how many are taken -/
structure DrawsAt (H : Hp) (d l : Addr) : Prop where
  ex : ∃ (at_ : Int) (ns : List Int), H d = some (.lst [.ref l, .int at_]) ∧ H l = some (.lst (ns.map V.int)) ∧ 0 ≤ at_ ∧ ∀ n ∈ ns, 0 ≤ n ∧ n < 1000000
  ne : l ≠ d
def spDraw : Sp := fun vs H Q _ => ∃ (d l : Addr), vs = [.ref d] ∧ DrawsAt H d l ∧
  ∀ (r : Int) (H' : Hp), 0 ≤ r → r < 1000000 → Keep [d] H H' → DrawsAt H' d l → Q (.int r) H'
abbrev sDraw : Stmt := top 28
theorem scDraw : FnScope ["_law_draws", "_law_at", "_law_first"] ["_law_draws"] (defScope sDraw) := ⟨rfl, rfl, rfl, by decide +kernel, rfl, by decide +kernel, by decide +kernel⟩
theorem ok_draw (D : Dfn K mg "_law_draw" sDraw ["_law_draws"]) (m_len : mg "len" = none) (c__law_mixed : Cal P w K mg base 1 "_law_mixed" spMixed) : Cal P w K mg base 2 "_law_draw" spDraw := by
  refine D.cal scDraw (fun vs H Q E h => ?_) (fun f cdv A outer s H vs Q E hr h => ?_)
  · obtain ⟨d, l, rfl, _⟩ := h
    rfl
  · obtain ⟨d, l, rfl, ⟨⟨at_, ns, hd, hl, h0, hns⟩, nld⟩, q⟩ := h
    obtain ⟨j, ej⟩ : ∃ j : Nat, at_ = (j : Int) := ⟨at_.toNat, by omega⟩
    refine ⟨_, (pss_cons (ps_set (i := 1) scDraw.nd rfl (Or.inl rfl) (pe_ix ix_list (pv 0) pe_int (fun _ _ => rfl)))
      (pss_cons (ps_asg (pe_op op_add (pv 1) pe_int) (pg_sub (pv 0) pe_int set_list))
      (pss_cons (ps_if (pt_cmpR op_lt (pv 1) (pe_callB call_len_seq (by rfl) m_len PySem.boot_len (pa_cons (pe_ix ix_list (pv 0) pe_int (fun _ _ => rfl)) pa_nil)) (nomark _))
        (pss_one (ps_ret (pe_ix ix_list (pe_ix ix_list (pv 0) pe_int (fun _ _ => rfl)) (pv 1) (fun _ _ => rfl))))
        pss_nil)
      (pss_cons (ps_set (i := 2) scDraw.nd rfl (Or.inl rfl) (pe_op op_add pe_int (pv 1)))
      (pss_cons (ps_if (pt_cmpR op_gt (pe_callB call_len_seq (by rfl) m_len PySem.boot_len (pa_cons (pe_ix ix_list (pv 0) pe_int (fun _ _ => rfl)) pa_nil)) pe_int (nomark _))
        (pss_one (ps_set (i := 2) scDraw.nd rfl (Or.inl rfl) (pe_op op_add (pv 2) (pe_op op_mul pe_int (pe_ix ix_list (pe_ix ix_list (pv 0) pe_int (fun _ _ => rfl)) pe_int (fun _ _ => rfl))))))
        pss_nil)
      (pss_one (ps_ret (pe_op op_mod (qe_c c__law_mixed hr (by decide) (by rfl) (pa_cons (qe_c c__law_mixed hr (by decide) (by rfl) (pa_cons (pv 2) (pa_cons (pv 1) pa_nil))) (pa_cons pe_int pa_nil))) pe_int)))))))), ?_⟩
    refine ⟨_, rfl, d, _, _, _, rfl, rfl, SqL.of hd, at_of (j := 1) rfl rfl, _, rfl, _, _, rfl, rfl, _, rfl, d, _, _, 1, rfl, rfl, hd, rfl, ?_⟩
    have k1 : Keep [d] H (upd H d (.lst [.ref l, .int (at_ + 1)])) := Keep.put (by simp)
    have hd1 : upd H d (.lst [.ref l, .int (at_ + 1)]) d = some (.lst [.ref l, .int (at_ + 1)]) := upd_same
    have hl1 : upd H d (.lst [.ref l, .int (at_ + 1)]) l = some (.lst (ns.map V.int)) := by rw [upd_ne nld]; exact hl
    have D1 : DrawsAt (upd H d (.lst [.ref l, .int (at_ + 1)])) d l := ⟨⟨at_ + 1, ns, hd1, hl1, by omega, hns⟩, nld⟩
    refine ⟨_, rfl, _, rfl, d, _, _, _, rfl, rfl, SqL.of hd1, at_of (j := 0) rfl rfl, l, _, rfl, .inl (SqL.of hl1), _, _, rfl, rfl, _, rfl, ?_⟩
    refine ite2 (fun hc => ?_) (fun hc => ?_)
    · have hlt : j < ns.length := by
        have := of_decide_eq_true hc
        rw [List.length_map] at this
        omega
      have hm := hns _ (List.getElem_mem hlt)
      refine ⟨_, rfl, d, _, _, _, rfl, rfl, SqL.of hd1, at_of (j := 0) rfl rfl, _, rfl, l, _, _, _, rfl, rfl, SqL.of hl1, at_of (j := j) (v := .int ns[j]) ej (by rw [List.getElem?_map, List.getElem?_eq_getElem hlt]; rfl), ?_⟩
      exact q _ _ hm.1 hm.2 k1 D1
    · refine ⟨_, rfl, _, _, rfl, rfl, ?_⟩
      refine ⟨_, rfl, d, _, _, _, rfl, rfl, SqL.of hd1, at_of (j := 0) rfl rfl, l, _, rfl, .inl (SqL.of hl1), _, _, rfl, rfl, _, rfl, ?_⟩
      refine ite2 (fun hc2 => ?_) (fun hc2 => ?_)
      · have hlt : 0 < ns.length := by
          have := of_decide_eq_true hc2
          rw [List.length_map] at this
          omega
        refine ⟨_, rfl, _, rfl, d, _, _, _, rfl, rfl, SqL.of hd1, at_of (j := 0) rfl rfl, l, _, _, _, rfl, rfl, SqL.of hl1, at_of (j := 0) (v := .int ns[0]) rfl (by rw [List.getElem?_map, List.getElem?_eq_getElem hlt]; rfl), _, _, rfl, rfl, .inl ⟨by decide, by decide⟩, _, _, rfl, rfl, ?_⟩
        refine ⟨_, rfl, _, rfl, _, _, rfl, fun r1 h1 h2 => ⟨_, _, rfl, fun r2 h3 h4 => ⟨_, _, rfl, rfl, (by show (0 : Int) < 1000000; decide), ?_⟩⟩⟩
        exact q _ _ (Int.emod_nonneg _ (by decide)) (Int.emod_lt_of_pos _ (by decide)) k1 D1
      · refine ⟨_, rfl, _, rfl, _, _, rfl, fun r1 h1 h2 => ⟨_, _, rfl, fun r2 h3 h4 => ⟨_, _, rfl, rfl, (by show (0 : Int) < 1000000; decide), ?_⟩⟩⟩
        exact q _ _ (Int.emod_nonneg _ (by decide)) (Int.emod_lt_of_pos _ (by decide)) k1 D1

def spNumbers (K : PySem.W.Frag) : Sp := fun vs H Q _ => ∃ (a : Addr) (ns : List Int), vs = [.ref a] ∧ SqL K H a (ns.map V.int) ∧ ns.length ≤ 63 ∧
  ∀ (l : Addr) (H' : Hp) (xs : List Int), Same H H' → H l = none → H' l = some (.lst (xs.map V.int)) → (∀ x ∈ xs, 0 ≤ x ∧ x < 1000000) → Q (.ref l) H'
abbrev sNumbers : Stmt := top 27
theorem scNumbers : FnScope ["_law_script", "_law_numbers_here", "_law_cell", "_law_rest", "_law_k"] ["_law_script"] (defScope sNumbers) := ⟨rfl, rfl, rfl, by decide +kernel, rfl, by decide +kernel, by decide +kernel⟩
/-- the list grown so far -/
structure NumsAt (H0 H : Hp) (l : Addr) (k : Nat) : Prop where
  sm : Same H0 H
  nl : H0 l = none
  ex : ∃ xs : List Int, H l = some (.lst (xs.map V.int)) ∧ xs.length ≤ k ∧ ∀ x ∈ xs, 0 ≤ x ∧ x < 1000000
theorem NumsAt.mono {H0 H : Hp} {l : Addr} {k k' : Nat} (h : NumsAt H0 H l k) (e : k ≤ k') : NumsAt H0 H l k' := by
  obtain ⟨xs, h1, h2, h3⟩ := h.ex
  exact ⟨h.sm, h.nl, xs, h1, by omega, h3⟩
theorem NumsAt.add {H0 H : Hp} {l : Addr} {k : Nat} (h : NumsAt H0 H l k) (hk : k ≤ 10000) (y : Int) (h0 : 0 ≤ y) (h1 : y < 1000000) {Q : Hp → Prop} (q : ∀ H', NumsAt H0 H' l (k + 1) → Q H') :
    rAppend (.ref l) [.int y] H (fun _ H' => Q H') := by
  obtain ⟨xs, e1, e2, e3⟩ := h.ex
  refine ⟨l, _, _, rfl, rfl, e1, by rw [List.length_map]; exact small_le (Nat.le_trans e2 hk) (by decide), ?_⟩
  refine q _ ⟨Keep.back h.sm (Keep.put (S := [l]) (by simp)) (by simpa using h.nl), h.nl, xs ++ [y], ?_, by simp; omega, ?_⟩
  · rw [upd_same, List.map_append]; rfl
  · intro x hx
    rcases List.mem_append.mp hx with hx | hx
    · exact e3 x hx
    · rw [List.mem_singleton.mp hx]; exact ⟨h0, h1⟩
theorem ok_numbers (D : Dfn K mg "_law_numbers" sNumbers ["_law_script"]) (m_range : mg "range" = none) (c__law_mixed : Cal P w K mg base 1 "_law_mixed" spMixed) : Cal P w K mg base 2 "_law_numbers" (spNumbers K) := by
  refine D.cal scNumbers (fun vs H Q E h => ?_) (fun f cdv A outer s H vs Q E hr h => ?_)
  · obtain ⟨a, ns, rfl, _⟩ := h
    rfl
  · obtain ⟨a, ns, rfl, hS, hlen, q⟩ := h
    refine ⟨_, (pss_cons (ps_set (i := 1) scNumbers.nd rfl (Or.inl rfl) (pe_lst pa_nil))
      (pss_cons (ps_for PassesOwn.never rfl (pi_list (pv 0)) (pg_name (i := 2) scNumbers.nd rfl (Or.inl rfl))
        (pss_one (ps_if (pt_cmpR op_ge (pv 2) (pe_op op_pow pe_int pe_int) (nomark _))
          (pss_cons (ps_set (i := 3) scNumbers.nd rfl (Or.inl rfl) (pv 2))
          (pss_one (ps_for PassesOwn.never rfl (pi_range1 (by rfl) m_range (pa_cons pe_int pa_nil)) (pg_name (i := 4) scNumbers.nd rfl (Or.inl rfl))
            (pss_one (ps_if (pt_cmpR op_gt (pv 3) pe_int (nomark _))
              (pss_cons (ps_expr (pe_bm PySem.F.plainAttrs_list PySem.F.slot_list_append PySem.F.type_list_append mt_append (pv 1) (pa_cons (pe_op op_mod (pv 3) pe_int) pa_nil)))
              (pss_one (ps_set (i := 3) scNumbers.nd rfl (Or.inl rfl) (pe_op op_fdiv (pv 3) pe_int))))
              pss_nil)))))
          (pss_cons (ps_expr (pe_bm PySem.F.plainAttrs_list PySem.F.slot_list_append PySem.F.type_list_append mt_append (pv 1) (pa_cons (pe_op op_mod (pv 2) pe_int) pa_nil)))
          (pss_one (ps_for PassesOwn.never rfl (pi_range1 (by rfl) m_range (pa_cons pe_int pa_nil)) (pg_name (i := 4) scNumbers.nd rfl (Or.inl rfl))
            (pss_one (ps_expr (pe_bm PySem.F.plainAttrs_list PySem.F.slot_list_append PySem.F.type_list_append mt_append (pv 1) (pa_cons (pe_op op_mod (qe_c c__law_mixed hr (by decide) (by rfl) (pa_cons (qe_c c__law_mixed hr (by decide) (by rfl) (pa_cons (pe_op op_mod (pv 2) pe_int) (pa_cons (pv 4) pa_nil))) (pa_cons (pe_op op_add (pv 4) pe_int) pa_nil))) pe_int) pa_nil))))))))))
      (pss_one (ps_ret (pv 1))))), ?_⟩
    refine ⟨Nat.zero_le _, fun l hl => ?_⟩
    refine ⟨_, rfl, a, rfl, ⟨_, (same_new hl).seq hS⟩, for_list (K := K) (a := a) (xs := ns.map V.int) (fun i σ H2 => ∃ v2 v3 v4 : Option V, σ = [some (.ref a), some (.ref l), v2, v3, v4] ∧ NumsAt H H2 l (60 * i))
      ⟨none, none, none, rfl, same_new hl, hl, [], upd_same, by simp, by simp⟩ (fun i σ H2 _ ⟨_, _, _, _, N⟩ => N.sm.seq hS) ?_ ?_⟩
    · rintro i y σ H2 hi ⟨v2, v3, v4, rfl, N⟩
      have hi63 : i < 63 := by
        have := (List.getElem?_eq_some_iff.mp hi).1
        rw [List.length_map] at this
        omega
      obtain ⟨z, rfl⟩ : ∃ z, y = V.int z := by
        rw [List.getElem?_map] at hi
        cases e : ns[i]? with
        | none => rw [e] at hi; cases hi
        | some z => rw [e] at hi; exact ⟨z, (Option.some.inj hi).symm⟩
      refine ⟨_, rfl, _, _, rfl, rfl, ⟨by decide, by decide, by decide⟩, _, _, rfl, rfl, _, rfl, ?_⟩
      refine ite2 (fun hc => ?_) (fun hc => ?_)
      · refine ⟨_, rfl, _, rfl, by decide, by decide, for_range (lo := 0) (n := 60) (fun j σ H3 => ∃ (r : Int) (v4 : Option V), σ = [some (.ref a), some (.ref l), some (.int z), some (.int r), v4] ∧ NumsAt H H3 l (60 * i + j)) ⟨z, v4, rfl, N⟩ ?_ ?_⟩
        · rintro j σ H3 hj ⟨r, v4, rfl, N3⟩
          refine ⟨_, rfl, _, _, rfl, rfl, _, rfl, ?_⟩
          refine ite2 (fun hc => ?_) (fun hc => ?_)
          · obtain ⟨xs, e1, _⟩ := N3.ex
            refine ⟨_, rfl, .inl ⟨rfl, _, SqL.of e1⟩, _, rfl, _, _, rfl, rfl, (by show (0 : Int) < 1000000; decide), ?_⟩
            refine N3.add (by omega) _ (Int.emod_nonneg _ (by decide)) (Int.emod_lt_of_pos _ (by decide)) fun H4 N4 => ?_
            refine ⟨_, rfl, _, _, rfl, rfl, ⟨by decide, by decide⟩, ?_⟩
            exact ⟨_, _, rfl, N4⟩
          · exact ⟨_, _, rfl, N3.mono (by omega)⟩
        · rintro σ H3 ⟨r, v4, rfl, N3⟩
          exact ⟨_, _, _, rfl, N3.mono (by omega)⟩
      · obtain ⟨xs, e1, _⟩ := N.ex
        refine ⟨_, rfl, .inl ⟨rfl, _, SqL.of e1⟩, _, rfl, _, _, rfl, rfl, (by show (0 : Int) < 1000000; decide), ?_⟩
        refine N.add (by omega) _ (Int.emod_nonneg _ (by decide)) (Int.emod_lt_of_pos _ (by decide)) fun H4 N4 => ?_
        refine ⟨_, rfl, by decide, by decide, for_range (lo := 0) (n := 5) (fun j σ H3 => ∃ (v3 v4 : Option V), σ = [some (.ref a), some (.ref l), some (.int z), v3, v4] ∧ NumsAt H H3 l (60 * i + 1 + j)) ⟨v3, v4, rfl, N4⟩ ?_ ?_⟩
        · rintro j σ H3 hj ⟨v3, v4, rfl, N3⟩
          obtain ⟨xs, e1, _⟩ := N3.ex
          refine ⟨_, rfl, .inl ⟨rfl, _, SqL.of e1⟩, _, rfl, _, _, rfl, rfl, (by show (0 : Int) < 2147483647; decide), _, rfl, _, _, rfl, fun r1 h1 h2 => ⟨_, rfl, _, _, rfl, rfl, _, _, rfl, fun r2 h3 h4 => ⟨_, _, rfl, rfl, (by show (0 : Int) < 1000000; decide), ?_⟩⟩⟩
          refine N3.add (by omega) _ (Int.emod_nonneg _ (by decide)) (Int.emod_lt_of_pos _ (by decide)) fun H4 N4 => ?_
          exact ⟨_, _, rfl, N4⟩
        · rintro σ H3 ⟨v3, v4, rfl, N3⟩
          exact ⟨_, _, _, rfl, N3.mono (by omega)⟩
    · rintro σ H2 ⟨v2, v3, v4, rfl, N⟩
      obtain ⟨xs, e1, _, e3⟩ := N.ex
      exact ⟨_, rfl, q l _ xs N.sm N.nl e1 e3⟩
end
end Cherry
namespace Cherry
open PySem PySem.Spec PyProof.Rows L2
section
variable {P : Program} {w : World} {K : PySem.W.Frag} {mg : Str → Option Value} {base : Heap}

/-- pairs below n, the lesser first -/
def PrOk (n : Nat) (es : List (Nat × Nat)) : Prop := ∀ e ∈ es, e.1 < e.2 ∧ e.2 < n
theorem PrOk.nil {n : Nat} : PrOk n [] := fun e h => by simp at h
theorem PrOk.snoc {n : Nat} {es : List (Nat × Nat)} (h : PrOk n es) {e : Nat × Nat} (he : e.1 < e.2 ∧ e.2 < n) : PrOk n (es ++ [e]) := fun x hx => by
  rcases List.mem_append.mp hx with h1 | h1
  · exact h x h1
  · rw [List.mem_singleton.mp h1]; exact he
theorem PrOk.app {n : Nat} {es fs : List (Nat × Nat)} (h : PrOk n es) (h' : PrOk n fs) : PrOk n (es ++ fs) := fun x hx => (List.mem_append.mp hx).elim (h x) (h' x)
/-- a list of such pairs, of at most k -/
structure PB (H : Hp) (l : Addr) (n k : Nat) : Prop where
  ex : ∃ es, PL H l es ∧ PrOk n es ∧ es.length ≤ k
theorem PB.same {H H' : Hp} {l : Addr} {n k : Nat} (h : PB H l n k) (s : Same H H') : PB H' l n k := by
  obtain ⟨es, h1, h2, h3⟩ := h.ex
  exact ⟨es, h1.same s, h2, h3⟩
theorem PB.mono {H : Hp} {l : Addr} {n k k' : Nat} (h : PB H l n k) (e : k ≤ k') : PB H l n k' := by
  obtain ⟨es, h1, h2, h3⟩ := h.ex
  exact ⟨es, h1, h2, by omega⟩
/-- a change elsewhere that leaves the tuples -/
theorem PB.tk {H H' : Hp} {l : Addr} {n k : Nat} (h : PB H l n k) (s : TK H H') (e : H' l = H l) : PB H' l n k := by
  obtain ⟨es, ⟨ts, h1, h2⟩, h3, h4⟩ := h.ex
  exact ⟨es, ⟨ts, by rw [e]; exact h1, h2.tk s⟩, h3, h4⟩
theorem PB.lst {H : Hp} {l : Addr} {n k : Nat} (h : PB H l n k) : ∃ xs, H l = some (.lst xs) := by
  obtain ⟨es, ⟨ts, h1, h2⟩, _⟩ := h.ex
  exact ⟨_, h1⟩
/-- the pairs so far at r, the draws at d -/
structure PSt (H0 H : Hp) (d l r : Addr) (n k : Nat) : Prop where
  kp : Keep [d] H0 H
  dr : DrawsAt H d l
  nr : H0 r = none
  nd : r ≠ d
  nl : r ≠ l
  pb : PB H r n k
theorem DrawsAt.lst {H : Hp} {d l : Addr} (h : DrawsAt H d l) : ∃ xs, H d = some (.lst xs) := by
  obtain ⟨_, _, h1, _⟩ := h.ex
  exact ⟨_, h1⟩
theorem DrawsAt.keep {H H' : Hp} {d l : Addr} (h : DrawsAt H d l) (h1 : H' d = H d) (h2 : H' l = H l) : DrawsAt H' d l := by
  obtain ⟨a, ns, q1, q2, q3, q4⟩ := h.ex
  exact ⟨⟨a, ns, by rw [h1]; exact q1, by rw [h2]; exact q2, q3, q4⟩, h.ne⟩
theorem DrawsAt.same {H H' : Hp} {d l : Addr} (h : DrawsAt H d l) (s : Same H H') : DrawsAt H' d l := by
  obtain ⟨a, ns, q1, q2, q3, q4⟩ := h.ex
  exact ⟨⟨a, ns, s _ _ q1, s _ _ q2, q3, q4⟩, h.ne⟩
theorem DrawsAt.tks {H H' : Hp} {d l : Addr} (h : DrawsAt H d l) (s : Keep [d] H H') : TK H H' := by
  obtain ⟨xs, e⟩ := h.lst
  exact TK.keep s (no_tup e)
theorem PSt.mono {H0 H : Hp} {d l r : Addr} {n k k' : Nat} (h : PSt H0 H d l r n k) (e : k ≤ k') : PSt H0 H d l r n k' := ⟨h.kp, h.dr, h.nr, h.nd, h.nl, h.pb.mono e⟩
theorem PSt.draw {H0 H H' : Hp} {d l r : Addr} {n k : Nat} (h : PSt H0 H d l r n k) (s : Keep [d] H H') (D' : DrawsAt H' d l) : PSt H0 H' d l r n k := by
  obtain ⟨xs, e⟩ := h.pb.lst
  exact ⟨h.kp.trans s, D', h.nr, h.nd, h.nl, h.pb.tk (h.dr.tks s) (by rw [e]; exact s _ _ e (by simpa using h.nd))⟩
theorem PSt.same {H0 H H' : Hp} {d l r : Addr} {n k : Nat} (h : PSt H0 H d l r n k) (s : Same H H') : PSt H0 H' d l r n k :=
  ⟨h.kp.trans (same_keep s), h.dr.same s, h.nr, h.nd, h.nl, h.pb.same s⟩
/-- an append of a new tuple to a list of pairs -/
theorem PB.append {H : Hp} {r t : Addr} {n k : Nat} (h : PB H r n k) (hk : k ≤ 10000) (ht : H t = none) {x y : Int} (e : Nat × Nat) (hx : x = (e.1 : Int)) (hy : y = (e.2 : Int)) (he : e.1 < e.2 ∧ e.2 < n)
    {Q : Hp → Prop} (q : ∀ H', Keep [r] H H' → TK H H' → PB H' r n (k + 1) → Q H') : rAppend (.ref r) [.ref t] (upd H t (.tup [.int x, .int y])) (fun _ H' => Q H') := by
  obtain ⟨es, h1, h2, h3⟩ := h.ex
  subst hx hy
  have s : Same H (upd H t (.tup [.int (e.1 : Int), .int (e.2 : Int)])) := same_new ht
  refine (h1.same s).add (e := e) upd_same (by omega) fun pl => q _ ?_ ?_ ⟨_, pl, h2.snoc he, by simp; omega⟩
  · exact (same_keep s).trans (Keep.put (by simp))
  · obtain ⟨ts, e1, _⟩ := (h1.same s).ex
    exact (TK.same s).trans (TK.put (no_tup1 e1))
theorem PSt.append {H0 H : Hp} {d l r t : Addr} {n k : Nat} (h : PSt H0 H d l r n k) (hk : k ≤ 10000) (ht : H t = none) {x y : Int} (e : Nat × Nat) (hx : x = (e.1 : Int)) (hy : y = (e.2 : Int)) (he : e.1 < e.2 ∧ e.2 < n)
    {Q : Hp → Prop} (q : ∀ H', PSt H0 H' d l r n (k + 1) → Q H') : rAppend (.ref r) [.ref t] (upd H t (.tup [.int x, .int y])) (fun _ H' => Q H') := by
  obtain ⟨_, _, hd, hl, _⟩ := h.dr.ex
  refine h.pb.append hk ht e hx hy he fun H' k1 t1 p1 => q H' ⟨?_, ?_, h.nr, h.nd, h.nl, p1⟩
  · exact fun b o hb hn => k1 b o (h.kp b o hb hn) (by
      intro hm
      rw [List.mem_singleton.mp hm, h.nr] at hb
      cases hb)
  · exact h.dr.keep (by rw [hd]; exact k1 _ _ hd (by simpa using h.nd.symm)) (by rw [hl]; exact k1 _ _ hl (by simpa using h.nl.symm))
/-- .. and the list of a comprehension at D -/
structure CSt (H0 H : Hp) (d l r D : Addr) (n k m : Nat) : Prop where
  ps : PSt H0 H d l r n k
  nD : H0 D = none
  dD : D ≠ d
  lD : D ≠ l
  rD : D ≠ r
  pD : PB H D n m
theorem CSt.draw {H0 H H' : Hp} {d l r D : Addr} {n k m : Nat} (h : CSt H0 H d l r D n k m) (s : Keep [d] H H') (D' : DrawsAt H' d l) : CSt H0 H' d l r D n k m := by
  obtain ⟨xs, e⟩ := h.pD.lst
  exact ⟨h.ps.draw s D', h.nD, h.dD, h.lD, h.rD, h.pD.tk (h.ps.dr.tks s) (by rw [e]; exact s _ _ e (by simpa using h.dD))⟩
theorem CSt.mono {H0 H : Hp} {d l r D : Addr} {n k m m' : Nat} (h : CSt H0 H d l r D n k m) (e : m ≤ m') : CSt H0 H d l r D n k m' := ⟨h.ps, h.nD, h.dD, h.lD, h.rD, h.pD.mono e⟩
/-- a turn of it: a new tuple goes to D -/
theorem CSt.put {H0 H : Hp} {d l r D t : Addr} {n k m : Nat} (h : CSt H0 H d l r D n k m) (hm : m ≤ 10000) (ht : H t = none) {x y : Int} (e : Nat × Nat) (hx : x = (e.1 : Int)) (hy : y = (e.2 : Int)) (he : e.1 < e.2 ∧ e.2 < n) :
    ∃ acc, upd H t (.tup [.int x, .int y]) D = some (.lst acc) ∧ acc.length < sizeLine ∧ CSt H0 (upd (upd H t (.tup [.int x, .int y])) D (.lst (acc ++ [.ref t]))) d l r D n k (m + 1) := by
  obtain ⟨es, ⟨ts, h1, h2⟩, h3, h4⟩ := h.pD.ex
  have s : Same H (upd H t (.tup [.int x, .int y])) := same_new ht
  have h1' := s _ _ h1
  have p1 := h.ps.same s
  have t1 : TK (upd H t (.tup [.int x, .int y])) (upd (upd H t (.tup [.int x, .int y])) D (.lst (ts.map V.ref ++ [.ref t]))) := TK.put (no_tup1 h1')
  have kD : Keep [D] (upd H t (.tup [.int x, .int y])) (upd (upd H t (.tup [.int x, .int y])) D (.lst (ts.map V.ref ++ [.ref t]))) := Keep.put (by simp)
  refine ⟨_, h1', by rw [List.length_map, h2.len]; exact small_le (Nat.le_trans h4 hm) (by decide), ⟨?_, h.nD, h.dD, h.lD, h.rD, es ++ [e], ⟨ts ++ [t], by rw [upd_same, List.map_append]; rfl, ?_⟩, h3.snoc he, by simp; omega⟩⟩
  · obtain ⟨_, _, hd, hl, _⟩ := p1.dr.ex
    refine ⟨fun b o hb hn => kD b o (p1.kp b o hb hn) ?_, p1.dr.keep (upd_ne h.dD.symm) (upd_ne h.lD.symm), p1.nr, p1.nd, p1.nl, p1.pb.tk t1 (upd_ne h.rD.symm)⟩
    intro hm
    rw [List.mem_singleton.mp hm, h.nD] at hb
    cases hb
  · exact ((h2.tk (TK.same s)).tk t1).append (.one (t1 _ _ (by rw [upd_same, hx, hy])))
/-- the comprehension done, its list goes behind r's -/
theorem CSt.ext {H0 H : Hp} {d l r D : Addr} {n k m : Nat} (h : CSt H0 H d l r D n k m) (hm : k + m ≤ 10000) {Q : Hp → Prop} (q : ∀ H', PSt H0 H' d l r n (k + m) → Q H') :
    rExtend (.ref r) [.ref D] H (fun _ H' => Q H') := by
  obtain ⟨es, ⟨ts, h1, h2⟩, h3, h4⟩ := h.pD.ex
  obtain ⟨fs, ⟨us, g1, g2⟩, g3, g4⟩ := h.ps.pb.ex
  have t1 : TK H (upd H r (.lst (us.map V.ref ++ ts.map V.ref))) := TK.put (no_tup1 g1)
  have kr : Keep [r] H (upd H r (.lst (us.map V.ref ++ ts.map V.ref))) := Keep.put (by simp)
  refine ⟨r, D, _, _, rfl, rfl, g1, h1, ?_, q _ ⟨?_, ?_, h.ps.nr, h.ps.nd, h.ps.nl, fs ++ es, ⟨us ++ ts, by rw [upd_same, List.map_append], (g2.tk t1).append (h2.tk t1)⟩, g3.app h3, by simp; omega⟩⟩
  · rw [List.length_map, List.length_map, h2.len, g2.len]
    exact Nat.le_of_lt (small_le (m := 10000) (by omega) (by decide))
  · exact fun b o hb hn => kr b o (h.ps.kp b o hb hn) (by
      intro hm
      rw [List.mem_singleton.mp hm, h.ps.nr] at hb
      cases hb)
  · exact h.ps.dr.keep (upd_ne h.ps.nd.symm) (upd_ne h.ps.nl.symm)

def spPairs : Sp := fun vs H Q _ => ∃ (d l : Addr) (n : Nat), vs = [.ref d, vi n] ∧ n ≤ 40 ∧ DrawsAt H d l ∧
  ∀ (r : Addr) (H' : Hp), PSt H H' d l r n 2000 → Q (.ref r) H'
abbrev sPairs : Stmt := top 31
theorem scPairs : FnScope ["_law_draws", "_law_nodes", "_law_kind", "_law_pairs", "_law_v", "_law_k", "_law_u"] ["_law_draws", "_law_nodes"] (defScope sPairs) := ⟨rfl, rfl, rfl, by decide +kernel, rfl, by decide +kernel, by decide +kernel⟩
/-- the loop of each comprehension there -/
theorem pairs_comp {tt : TT} {H0 H1 : Hp} {d l r D : Addr} {n v k : Nat} {kind : V} {v5 v6 : Option V} {Qd : Hp → Prop} (hv : v < n) (hn : n ≤ 40) (hD : H1 D = none) (P1 : PSt H0 H1 d l r n k)
    (htt : ∀ (u : Nat) (H2 : Hp) (Q : Bool → Hp → Prop), DrawsAt H2 d l → (∀ b H3, Keep [d] H2 H3 → DrawsAt H3 d l → Q b H3) → tt [some (.ref d), some (vi n), some kind, some (.ref r), some (vi v), v5, some (vi u)] H2 Q)
    (hd : ∀ H2, CSt H0 H2 d l r D n k v → Qd H2) :
    ∃ W : Nat → Nat → Hp → Prop, (∃ m, W 0 m (upd H1 D (.lst []))) ∧ ∀ i m H, W i m H →
      ((Itr 0 v).stop i H ∧ Qd H) ∨ ((Itr 0 v).go i H ∧ ∃ Nx : Hp → Prop, (∀ H', Nx H' → ∃ m', m' < m ∧ W (i + 1) m' H') ∧ ∀ x H', (Itr 0 v).yld i H x H' → gName 6 x (wipe [some (.ref d), some (vi n), some kind, some (.ref r), some (vi v), v5, v6] [6]) H' fun σ2 H2 =>
        wipe σ2 [6] = wipe [some (.ref d), some (vi n), some kind, some (.ref r), some (vi v), v5, v6] [6] ∧ tt σ2 H2 fun b H3 =>
        if b = true then tTup (tCons (tVar 6) (tCons (tVar 4) tNil)) σ2 H3 fun y H4 => ∃ acc, H4 D = some (.lst acc) ∧ acc.length < sizeLine ∧ Nx (upd H4 D (.lst (acc ++ [y]))) else Nx H3) := by
  have nDd : D ≠ d := by
    obtain ⟨xs, e⟩ := P1.dr.lst
    exact (ne_of_none e hD).symm
  have nDl : D ≠ l := by
    obtain ⟨_, _, _, e, _⟩ := P1.dr.ex
    exact (ne_of_none e hD).symm
  have nDr : D ≠ r := by
    obtain ⟨xs, e⟩ := P1.pb.lst
    exact (ne_of_none e hD).symm
  have n0 : H0 D = none := by
    cases e : H0 D with
    | none => rfl
    | some o => rw [P1.kp D o e (by simpa using nDd)] at hD; cases hD
  refine lc_rng0 (n := v) (fun i H => CSt H0 H d l r D n k i) ⟨P1.same (same_new hD), n0, nDd, nDl, nDr, [], ⟨[], upd_same, .nil⟩, .nil, Nat.le_refl _⟩ ?_ hd
  intro i H hi C
  refine ⟨rfl, htt i H _ C.ps.dr fun b H3 k3 D3 => ?_⟩
  have C3 := C.draw k3 D3
  refine ite2 (fun hb => ?_) (fun hb => C3.mono (by omega))
  exact ⟨_, rfl, _, rfl, (by show 2 ≤ sizeLine; decide), fun t ht => C3.put (by omega) ht (i, v) rfl rfl ⟨hi, hv⟩⟩
theorem mod_nat (z : Int) {n : Nat} (h : 0 < n) : ∃ a : Nat, z % (n : Int) = (a : Int) ∧ a < n := by
  have h1 := Int.emod_nonneg z (show (n : Int) ≠ 0 by omega)
  have h2 := Int.emod_lt_of_pos z (show (0 : Int) < n by omega)
  exact ⟨(z % (n : Int)).toNat, by omega, by omega⟩
theorem mod_other {a b n : Nat} (ha : a < n) (hb : b + 1 < n) : ∃ c : Nat, ((a : Int) + 1 + (b : Int)) % (n : Int) = (c : Int) ∧ c < n ∧ c ≠ a := by
  refine ⟨(a + 1 + b) % n, by rw [Int.natCast_emod]; rfl, Nat.mod_lt _ (by omega), ?_⟩
  by_cases h : a + 1 + b < n
  · rw [Nat.mod_eq_of_lt h]; omega
  · rw [Nat.mod_eq_sub_mod (by omega), Nat.mod_eq_of_lt (by omega)]; omega
theorem ok_pairs (D : Dfn K mg "_law_some_pairs" sPairs ["_law_draws", "_law_nodes"]) (m_range : mg "range" = none) (m_min : mg "min" = none) (m_max : mg "max" = none) (c__law_draw : Cal P w K mg base 2 "_law_draw" spDraw) :
    Cal P w K mg base 3 "_law_some_pairs" spPairs := by
  refine D.cal scPairs (fun vs H Q E h => ?_) (fun f cdv A outer s H vs Q E hr h => ?_)
  · obtain ⟨d, l, n, rfl, _⟩ := h
    rfl
  · obtain ⟨d, l, n, rfl, hn, D0, q⟩ := h
    refine ⟨_, (pss_cons (ps_set (i := 2) scPairs.nd rfl (Or.inl rfl) (pe_op op_mod (qe_c c__law_draw hr (by decide) (by rfl) (pa_cons (pv 0) pa_nil)) pe_int))
      (pss_cons (ps_set (i := 3) scPairs.nd rfl (Or.inl rfl) (pe_lst pa_nil))
      (pss_cons (ps_for PassesOwn.never rfl (pi_range2 (by rfl) m_range (pa_cons pe_int (pa_cons (pv 1) pa_nil))) (pg_name (i := 4) scPairs.nd rfl (Or.inr rfl))
        (pss_one (ps_if (pt_cmpR op_eq (pv 2) pe_int (nomark _))
          (pss_one (ps_expr (pe_bm PySem.F.plainAttrs_list PySem.F.slot_list_append PySem.F.type_list_append mt_append (pv 3) (pa_cons (pe_tup (pa_cons (pe_op op_sub (pv 4) pe_int) (pa_cons (pv 4) pa_nil))) pa_nil))))
          (pss_one (ps_if (pt_cmpR op_eq (pv 2) pe_int (nomark _))
            (pss_one (ps_expr (pe_bm PySem.F.plainAttrs_list PySem.F.slot_list_append PySem.F.type_list_append mt_append (pv 3) (pa_cons (pe_tup (pa_cons (pe_op op_mod (qe_c c__law_draw hr (by decide) (by rfl) (pa_cons (pv 0) pa_nil)) (pv 4)) (pa_cons (pv 4) pa_nil))) pa_nil))))
            (pss_one (ps_if (pt_cmpR op_eq (pv 2) pe_int (nomark _))
              (pss_one (ps_expr (pe_bm PySem.F.plainAttrs_list PySem.F.slot_list_extend PySem.F.type_list_extend mt_extend (pv 3) (pa_cons (pe_lc (own := [("_law_u", 6)]) (g := (gName 6)) (by rfl) scPairs.nd (pi_range1 (by rfl) m_range (pa_cons (pv 4) pa_nil)) (blkOk_by (own := [("_law_u", 6)]) (N := ["_law_draws", "_law_nodes", "_law_kind", "_law_pairs", "_law_v", "_law_k", "_law_u"]) (sc := defScope sPairs) (by decide +kernel)) (fun _ _ _ _ _ => (pg_name (i := 6) scPairs.nd rfl (Or.inl rfl))) (fun _ _ _ _ _ => (pts_one (PW.pt (pw_and (pt_cmpR op_eq (pe_op op_mod (pe_op op_add (pv 6) (pv 4)) pe_int) pe_int (nomark _)) (pw_and1 (pt_cmpR op_eq (pe_op op_mod (qe_c c__law_draw hr (by decide) (by rfl) (pa_cons (pv 0) pa_nil)) pe_int) pe_int (nomark _))))))) (fun _ _ _ _ _ => (pe_tup (pa_cons (pv 6) (pa_cons (pv 4) pa_nil))))) pa_nil))))
              (pss_one (ps_if (pt_cmpR op_eq (pv 2) pe_int (nomark _))
                (pss_one (ps_expr (pe_bm PySem.F.plainAttrs_list PySem.F.slot_list_extend PySem.F.type_list_extend mt_extend (pv 3) (pa_cons (pe_lc (own := [("_law_u", 6)]) (g := (gName 6)) (by rfl) scPairs.nd (pi_range1 (by rfl) m_range (pa_cons (pv 4) pa_nil)) (blkOk_by (own := [("_law_u", 6)]) (N := ["_law_draws", "_law_nodes", "_law_kind", "_law_pairs", "_law_v", "_law_k", "_law_u"]) (sc := defScope sPairs) (by decide +kernel)) (fun _ _ _ _ _ => (pg_name (i := 6) scPairs.nd rfl (Or.inl rfl))) (fun _ _ _ _ _ => (pts_one (pt_cmpR op_eq (pe_op op_fdiv (pv 6) pe_int) (pe_op op_fdiv (pv 4) pe_int) (nomark _)))) (fun _ _ _ _ _ => (pe_tup (pa_cons (pv 6) (pa_cons (pv 4) pa_nil))))) pa_nil))))
                (pss_one (ps_if (pt_cmpR op_eq (pv 2) pe_int (nomark _))
                  (pss_one (ps_expr (pe_bm PySem.F.plainAttrs_list PySem.F.slot_list_extend PySem.F.type_list_extend mt_extend (pv 3) (pa_cons (pe_lc (own := [("_law_u", 6)]) (g := (gName 6)) (by rfl) scPairs.nd (pi_range1 (by rfl) m_range (pa_cons (pv 4) pa_nil)) (blkOk_by (own := [("_law_u", 6)]) (N := ["_law_draws", "_law_nodes", "_law_kind", "_law_pairs", "_law_v", "_law_k", "_law_u"]) (sc := defScope sPairs) (by decide +kernel)) (fun _ _ _ _ _ => (pg_name (i := 6) scPairs.nd rfl (Or.inl rfl))) (fun _ _ _ _ _ => (pts_one (pt_cmpR op_eq (pe_op op_mod (qe_c c__law_draw hr (by decide) (by rfl) (pa_cons (pv 0) pa_nil)) pe_int) pe_int (nomark _)))) (fun _ _ _ _ _ => (pe_tup (pa_cons (pv 6) (pa_cons (pv 4) pa_nil))))) pa_nil))))
                  (pss_one (ps_if (pt_cmpR op_eq (pv 2) pe_int (nomark _))
                    (pss_one (ps_expr (pe_bm PySem.F.plainAttrs_list PySem.F.slot_list_extend PySem.F.type_list_extend mt_extend (pv 3) (pa_cons (pe_lc (own := [("_law_u", 6)]) (g := (gName 6)) (by rfl) scPairs.nd (pi_range1 (by rfl) m_range (pa_cons (pv 4) pa_nil)) (blkOk_by (own := [("_law_u", 6)]) (N := ["_law_draws", "_law_nodes", "_law_kind", "_law_pairs", "_law_v", "_law_k", "_law_u"]) (sc := defScope sPairs) (by decide +kernel)) (fun _ _ _ _ _ => (pg_name (i := 6) scPairs.nd rfl (Or.inl rfl))) (fun _ _ _ _ _ => (pts_one (pt_cmpR op_gt (pe_op op_mod (qe_c c__law_draw hr (by decide) (by rfl) (pa_cons (pv 0) pa_nil)) pe_int) pe_int (nomark _)))) (fun _ _ _ _ _ => (pe_tup (pa_cons (pv 6) (pa_cons (pv 4) pa_nil))))) pa_nil))))
                    (pss_one (ps_if (pt_cmpR op_lt (pv 2) pe_int (nomark _))
                      (pss_one (ps_expr (pe_bm PySem.F.plainAttrs_list PySem.F.slot_list_extend PySem.F.type_list_extend mt_extend (pv 3) (pa_cons (pe_lc (own := [("_law_u", 6)]) (g := (gName 6)) (by rfl) scPairs.nd (pi_range1 (by rfl) m_range (pa_cons (pv 4) pa_nil)) (blkOk_by (own := [("_law_u", 6)]) (N := ["_law_draws", "_law_nodes", "_law_kind", "_law_pairs", "_law_v", "_law_k", "_law_u"]) (sc := defScope sPairs) (by decide +kernel)) (fun _ _ _ _ _ => (pg_name (i := 6) scPairs.nd rfl (Or.inl rfl))) (fun _ _ _ _ _ => (pts_one (pt_cmpR op_lt (pe_op op_mod (pe_op op_mul (qe_c c__law_draw hr (by decide) (by rfl) (pa_cons (pv 0) pa_nil)) pe_int) (pe_op op_mul pe_int (pv 1))) pe_int (nomark _)))) (fun _ _ _ _ _ => (pe_tup (pa_cons (pv 6) (pa_cons (pv 4) pa_nil))))) pa_nil))))
                      pss_nil)))))))))))))))
      (Evl.pss_cut (ps_if (PW.pt (pw_and (pt_cmpR op_eq (pv 2) pe_int (nomark _)) (pw_and (pt_cmpR op_gt (pv 1) pe_int (nomark _)) (pw_and1 (pt_cmpR op_eq (pe_op op_mod (qe_c c__law_draw hr (by decide) (by rfl) (pa_cons (pv 0) pa_nil)) pe_int) pe_int (nomark _))))))
        (pss_one (ps_expr (pe_bm PySem.F.plainAttrs_list PySem.F.slot_list_append PySem.F.type_list_append mt_append (pv 3) (pa_cons (pe_tup (pa_cons pe_int (pa_cons (pe_op op_sub (pv 1) pe_int) pa_nil))) pa_nil))))
        pss_nil)
      (pss_cons (ps_for PassesOwn.never rfl (pi_range1 (by rfl) m_range (pa_cons (pe_op op_mod (qe_c c__law_draw hr (by decide) (by rfl) (pa_cons (pv 0) pa_nil)) pe_int) pa_nil)) (pg_name (i := 5) scPairs.nd rfl (Or.inl rfl))
        (pss_one (ps_if (pt_cmpR op_gt (pv 1) pe_int (nomark _))
          (pss_cons (ps_set (i := 6) scPairs.nd rfl (Or.inl rfl) (pe_op op_mod (qe_c c__law_draw hr (by decide) (by rfl) (pa_cons (pv 0) pa_nil)) (pv 1)))
          (pss_cons (ps_set (i := 4) scPairs.nd rfl (Or.inr rfl) (pe_op op_mod (pe_op op_add (pe_op op_add (pv 6) pe_int) (pe_op op_mod (qe_c c__law_draw hr (by decide) (by rfl) (pa_cons (pv 0) pa_nil)) (pe_op op_sub (pv 1) pe_int))) (pv 1)))
          (pss_one (ps_expr (pe_bm PySem.F.plainAttrs_list PySem.F.slot_list_append PySem.F.type_list_append mt_append (pv 3) (pa_cons (pe_tup (pa_cons (pe_callB (call_min2 rfl) (by rfl) m_min (by decide +kernel) (pa_cons (pv 6) (pa_cons (pv 4) pa_nil))) (pa_cons (pe_callB (call_max2 rfl) (by rfl) m_max (by decide +kernel) (pa_cons (pv 6) (pa_cons (pv 4) pa_nil))) pa_nil))) pa_nil))))))
          pss_nil)))
      (pss_one (ps_ret (pv 3)))))))), ?_⟩
    refine ⟨_, rfl, d, l, rfl, D0, fun z H1 z0 z1 k1 D1 => ⟨_, _, rfl, rfl, (by show (0 : Int) < 9; decide), ?_⟩⟩
    refine ⟨Nat.zero_le _, fun r hr0 => ?_⟩
    have nrd : r ≠ d := by
      obtain ⟨xs, e⟩ := D1.lst
      exact (ne_of_none e hr0).symm
    have nrl : r ≠ l := by
      obtain ⟨_, _, _, e, _⟩ := D1.ex
      exact (ne_of_none e hr0).symm
    have n0 : H r = none := by
      cases e : H r with
      | none => rfl
      | some o => rw [k1 r o e (by simpa using nrd)] at hr0; cases hr0
    have P1 : PSt H (upd H1 r (.lst [])) d l r n 0 :=
      ⟨k1.trans (same_keep (same_new hr0)), D1.same (same_new hr0), n0, nrd, nrl, [], ⟨[], upd_same, .nil⟩, .nil, Nat.le_refl _⟩
    generalize upd H1 r (.lst []) = H2 at *
    refine ⟨_, rfl, 1, (n : Int), rfl, ⟨by decide, by decide, by omega, by omega⟩, for_rng (lo := 1) (n := ((n : Int) - 1).toNat) (fun i σ H' => ∃ v4 v5 v6 : Option V, σ = [some (.ref d), some (vi n), some (.int (z % 9)), some (.ref r), v4, v5, v6] ∧ PSt H H' d l r n (40 * i))
      ⟨none, none, none, rfl, P1⟩ ?_ ?_⟩
    · rintro i σ H3 hi ⟨v4, v5, v6, rfl, P3⟩
      have hv : 1 + i < n := by omega
      have hv1 : 1 ≤ 1 + i := by omega
      generalize 1 + i = v at *
      obtain ⟨xs, er⟩ := P3.pb.lst
      refine ⟨_, rfl, rfl, _, rfl, ite2 (fun hc => ?_) (fun hc => ?_)⟩
      · refine ⟨_, rfl, .inl ⟨rfl, _, SqL.of er⟩, _, rfl, _, _, rfl, rfl, _, rfl, (by show 2 ≤ sizeLine; decide), fun t ht => ?_⟩
        exact P3.append (by omega) ht (v - 1, v) (by show (v : Int) - 1 = ((v - 1 : Nat) : Int); omega) rfl ⟨by show v - 1 < v; omega, hv⟩ fun H4 P4 => ⟨_, _, _, rfl, P4.mono (by omega)⟩
      refine ⟨_, rfl, rfl, _, rfl, ite2 (fun hc => ?_) (fun hc => ?_)⟩
      · refine ⟨_, rfl, .inl ⟨rfl, _, SqL.of er⟩, _, rfl, d, l, rfl, P3.dr, fun z H4 z0 z1 k4 D4 => ⟨_, rfl, _, _, rfl, rfl, (by show (0 : Int) < (v : Int); omega), _, rfl, (by show 2 ≤ sizeLine; decide), fun t ht => ?_⟩⟩
        obtain ⟨a, ea, la⟩ := mod_nat z (n := v) (by omega)
        exact (P3.draw k4 D4).append (by omega) ht (a, v) ea rfl ⟨la, hv⟩ fun H4 P4 => ⟨_, _, _, rfl, P4.mono (by omega)⟩
      -- the kinds that are made by comprehensions
      refine ⟨_, rfl, rfl, _, rfl, ite2 (fun hc => ?_) (fun hc => ?_)⟩
      · refine ⟨_, rfl, .inl ⟨rfl, _, SqL.of er⟩, _, rfl, _, rfl, by omega, by omega, fun D hD => pairs_comp (v6 := v6) (kind := .int (z % 9)) hv hn hD P3 (fun u H4 Q4 D4 hQ => ?_) fun H4 C4 => C4.ext (by omega) fun H5 P5 => ⟨_, _, _, rfl, P5.mono (by omega)⟩⟩
        refine ⟨_, rfl, _, rfl, _, _, rfl, rfl, _, _, rfl, rfl, (by show (0 : Int) < 2; decide), rfl, _, rfl, ite2 (fun hb => ?_) (fun hb => hQ _ _ (Keep.refl _) D4)⟩
        exact ⟨_, rfl, d, l, rfl, D4, fun z5 H5 z0 z1 k5 D5 => ⟨_, _, rfl, rfl, (by show (0 : Int) < 2; decide), rfl, _, rfl, hQ _ _ k5 D5⟩⟩
      refine ⟨_, rfl, rfl, _, rfl, ite2 (fun hc => ?_) (fun hc => ?_)⟩
      · refine ⟨_, rfl, .inl ⟨rfl, _, SqL.of er⟩, _, rfl, _, rfl, by omega, by omega, fun D hD => pairs_comp (v6 := v6) (kind := .int (z % 9)) hv hn hD P3 (fun u H4 Q4 D4 hQ => ?_) fun H4 C4 => C4.ext (by omega) fun H5 P5 => ⟨_, _, _, rfl, P5.mono (by omega)⟩⟩
        exact ⟨_, rfl, _, _, rfl, rfl, ⟨by decide, by decide⟩, _, rfl, _, _, rfl, rfl, ⟨by decide, by decide⟩, rfl, _, rfl, hQ _ _ (Keep.refl _) D4⟩
      refine ⟨_, rfl, rfl, _, rfl, ite2 (fun hc => ?_) (fun hc => ?_)⟩
      · refine ⟨_, rfl, .inl ⟨rfl, _, SqL.of er⟩, _, rfl, _, rfl, by omega, by omega, fun D hD => pairs_comp (v6 := v6) (kind := .int (z % 9)) hv hn hD P3 (fun u H4 Q4 D4 hQ => ?_) fun H4 C4 => C4.ext (by omega) fun H5 P5 => ⟨_, _, _, rfl, P5.mono (by omega)⟩⟩
        exact ⟨_, rfl, d, l, rfl, D4, fun z5 H5 z0 z1 k5 D5 => ⟨_, _, rfl, rfl, (by show (0 : Int) < 2; decide), rfl, _, rfl, hQ _ _ k5 D5⟩⟩
      refine ⟨_, rfl, rfl, _, rfl, ite2 (fun hc => ?_) (fun hc => ?_)⟩
      · refine ⟨_, rfl, .inl ⟨rfl, _, SqL.of er⟩, _, rfl, _, rfl, by omega, by omega, fun D hD => pairs_comp (v6 := v6) (kind := .int (z % 9)) hv hn hD P3 (fun u H4 Q4 D4 hQ => ?_) fun H4 C4 => C4.ext (by omega) fun H5 P5 => ⟨_, _, _, rfl, P5.mono (by omega)⟩⟩
        exact ⟨_, rfl, d, l, rfl, D4, fun z5 H5 z0 z1 k5 D5 => ⟨_, _, rfl, rfl, (by show (0 : Int) < 5; decide), _, _, rfl, rfl, _, rfl, hQ _ _ k5 D5⟩⟩
      refine ⟨_, rfl, _, _, rfl, rfl, _, rfl, ite2 (fun hc => ?_) (fun hc => ⟨_, _, _, rfl, P3.mono (by omega)⟩)⟩
      refine ⟨_, rfl, .inl ⟨rfl, _, SqL.of er⟩, _, rfl, _, rfl, by omega, by omega, fun D hD => pairs_comp (v6 := v6) (kind := .int (z % 9)) hv hn hD P3 (fun u H4 Q4 D4 hQ => ?_) fun H4 C4 => C4.ext (by omega) fun H5 P5 => ⟨_, _, _, rfl, P5.mono (by omega)⟩⟩
      exact ⟨_, rfl, d, l, rfl, D4, fun z5 H5 z0 z1 k5 D5 => ⟨_, _, rfl, rfl, .inr ⟨by decide, by decide⟩, _, rfl, _, _, rfl, rfl, .inl ⟨by decide, by decide⟩, _, _, rfl, rfl, (by show (0 : Int) < 2 * (n : Int); omega), _, _, rfl, rfl, _, rfl, hQ _ _ k5 D5⟩⟩
    · rintro σ H3 ⟨v4, v5, v6, rfl, P3⟩
      have P3 : PSt H H3 d l r n 1600 := P3.mono (by omega)
      -- if kind == 0 and nodes > 2 and draw % 2 == 0
      refine ⟨fun σ H4 => ∃ v4 v5 v6 : Option V, σ = [some (V.ref d), some (vi n), some (.int (z % 9)), some (.ref r), v4, v5, v6] ∧ PSt H H4 d l r n 1601, ?_, ?_⟩
      · refine ⟨_, rfl, rfl, _, rfl, ite2 (fun hc => ?_) (fun hc => iteF ⟨_, _, _, rfl, P3.mono (by omega)⟩)⟩
        refine ⟨_, rfl, _, _, rfl, rfl, _, rfl, ite2 (fun hc2 => ?_) (fun hc => iteF ⟨_, _, _, rfl, P3.mono (by omega)⟩)⟩
        refine ⟨_, rfl, d, l, rfl, P3.dr, fun z5 H5 z0 z1 k5 D5 => ⟨_, _, rfl, rfl, (by show (0 : Int) < 2; decide), rfl, _, rfl, ?_⟩⟩
        have P5 := P3.draw k5 D5
        have hn2 := of_decide_eq_true hc2
        refine ite2 (fun hc => ?_) (fun hc => ⟨_, _, _, rfl, P5.mono (by omega)⟩)
        obtain ⟨xs, er⟩ := P5.pb.lst
        refine ⟨_, rfl, .inl ⟨rfl, _, SqL.of er⟩, _, rfl, _, _, rfl, rfl, (by show 2 ≤ sizeLine; decide), fun t ht => ?_⟩
        exact P5.append (by omega) ht (0, n - 1) rfl (by show (n : Int) - 1 = ((n - 1 : Nat) : Int); omega) ⟨by show 0 < n - 1; omega, by show n - 1 < n; omega⟩ fun H6 P6 => ⟨_, _, _, rfl, P6⟩
      · rintro σ H4 ⟨v4, v5, v6, rfl, P4⟩
        refine ⟨_, rfl, d, l, rfl, P4.dr, fun z5 H5 z0 z1 k5 D5 => ⟨_, _, rfl, rfl, (by show (0 : Int) < 4; decide), ?_⟩⟩
        have P5 := P4.draw k5 D5
        have h4 := Int.emod_nonneg z5 (show (4 : Int) ≠ 0 by decide)
        have h5 := Int.emod_lt_of_pos z5 (show (0 : Int) < 4 by decide)
        refine ⟨z5 % 4, rfl, by omega, by omega, for_rng0 (n := (z5 % 4).toNat) (fun i σ H' => ∃ v4 v5 v6 : Option V, σ = [some (.ref d), some (vi n), some (.int (z % 9)), some (.ref r), v4, v5, v6] ∧ PSt H H' d l r n (1601 + i)) ⟨_, _, _, rfl, P5⟩ ?_ ?_⟩
        · rintro i σ H6 hi ⟨v4, v5, v6, rfl, P6⟩
          refine ⟨_, rfl, _, _, rfl, rfl, _, rfl, ite2 (fun hc => ?_) (fun hc => ⟨_, _, _, rfl, P6.mono (by omega)⟩)⟩
          have hn2 := of_decide_eq_true hc
          refine ⟨_, rfl, d, l, rfl, P6.dr, fun z7 H7 z0 z1 k7 D7 => ⟨_, rfl, _, _, rfl, rfl, (by show (0 : Int) < (n : Int); omega), ?_⟩⟩
          have P7 := P6.draw k7 D7
          obtain ⟨a, ea, la⟩ := mod_nat z7 (n := n) (by omega)
          refine ⟨_, rfl, _, _, rfl, rfl, _, rfl, d, l, rfl, P7.dr, fun z8 H8 z0 z1 k8 D8 => ⟨_, rfl, _, _, rfl, rfl, _, _, rfl, rfl, (by show (0 : Int) < (n : Int) - 1; omega), _, _, rfl, rfl, _, rfl, _, _, rfl, rfl, (by show (0 : Int) < (n : Int); omega), ?_⟩⟩
          have P8 := P7.draw k8 D8
          obtain ⟨b, eb, lb⟩ := mod_nat z8 (n := n - 1) (by omega)
          have eb : z8 % ((n : Int) - 1) = (b : Int) := by rw [← eb]; congr 1; omega
          obtain ⟨c, ec, lc, nc⟩ := mod_other la (show b + 1 < n by omega)
          have ev : (z7 % (n : Int) + 1 + z8 % ((n : Int) - 1)) % (n : Int) = (c : Int) := by rw [ea, eb, ec]
          obtain ⟨xs, er⟩ := P8.pb.lst
          refine ⟨_, rfl, .inl ⟨rfl, _, SqL.of er⟩, _, rfl, _, rfl, _, _, rfl, _, rfl, _, rfl, _, _, rfl, (by show 2 ≤ sizeLine; decide), fun t ht => ?_⟩
          refine P8.append (by omega) ht (min a c, max a c) ?_ ?_ ⟨by show min a c < max a c; omega, by show max a c < n; omega⟩ fun H9 P9 => ⟨_, _, _, rfl, P9⟩
          · show (if (z7 % (n : Int) + 1 + z8 % ((n : Int) - 1)) % (n : Int) < z7 % (n : Int) then (z7 % (n : Int) + 1 + z8 % ((n : Int) - 1)) % (n : Int) else z7 % (n : Int)) = ((min a c : Nat) : Int)
            rw [ev, ea]; split <;> omega
          · show (if (z7 % (n : Int) + 1 + z8 % ((n : Int) - 1)) % (n : Int) > z7 % (n : Int) then (z7 % (n : Int) + 1 + z8 % ((n : Int) - 1)) % (n : Int) else z7 % (n : Int)) = ((max a c : Nat) : Int)
            rw [ev, ea]; split <;> omega
        · rintro σ H6 ⟨v4, v5, v6, rfl, P6⟩
          exact ⟨_, rfl, q r H6 (P6.mono (by omega))⟩
end
end Cherry
namespace Cherry
open PySem PySem.Spec PyProof.Rows L2
section
variable {P : Program} {w : World} {K : PySem.W.Frag} {mg : Str → Option Value} {base : Heap}
/-- a new tuple put behind the list of a comprehension -/
theorem PL.put {H : Hp} {D t : Addr} {fs : List (Nat × Nat)} (h : PL H D fs) (hn : fs.length ≤ 100000) (ht : H t = none) {x y : Int} (e : Nat × Nat) (hx : x = (e.1 : Int)) (hy : y = (e.2 : Int)) :
    ∃ acc, upd H t (.tup [.int x, .int y]) D = some (.lst acc) ∧ acc.length < sizeLine ∧ PL (upd (upd H t (.tup [.int x, .int y])) D (.lst (acc ++ [.ref t]))) D (fs ++ [e]) ∧
      Keep [D] H (upd (upd H t (.tup [.int x, .int y])) D (.lst (acc ++ [.ref t]))) := by
  obtain ⟨ts, h1, h2⟩ := h.ex
  have s : Same H (upd H t (.tup [.int x, .int y])) := same_new ht
  have h1' := s _ _ h1
  have t1 : TK (upd H t (.tup [.int x, .int y])) (upd (upd H t (.tup [.int x, .int y])) D (.lst (ts.map V.ref ++ [.ref t]))) := TK.put (no_tup1 h1')
  refine ⟨_, h1', by rw [List.length_map, h2.len]; exact small_le hn (by decide), ⟨ts ++ [t], by rw [upd_same, List.map_append]; rfl, ?_⟩, (same_keep s).trans (Keep.put (by simp))⟩
  exact ((h2.tk (TK.same s)).tk t1).append (.one (t1 _ _ (by rw [upd_same, hx, hy])))
/-- a pair that stands already put behind the list of a comprehension -/
theorem PL.put' {H : Hp} {D t : Addr} {fs : List (Nat × Nat)} {e : Nat × Nat} (h : PL H D fs) (hn : fs.length ≤ 100000) (ht : H t = some (tupV e)) :
    ∃ acc, H D = some (.lst acc) ∧ acc.length < sizeLine ∧ PL (upd H D (.lst (acc ++ [.ref t]))) D (fs ++ [e]) ∧ Keep [D] H (upd H D (.lst (acc ++ [.ref t]))) := by
  obtain ⟨ts, h1, h2⟩ := h.ex
  have t1 : TK H (upd H D (.lst (ts.map V.ref ++ [.ref t]))) := TK.put (no_tup1 h1)
  exact ⟨_, h1, by rw [List.length_map, h2.len]; exact small_le hn (by decide), ⟨ts ++ [t], by rw [upd_same, List.map_append]; rfl, (h2.tk t1).append (.one (t1 _ _ ht))⟩, Keep.put (by simp)⟩

/-- the names at nm, a permutation -/
structure NSt (H0 H : Hp) (d l r nm : Addr) (n : Nat) : Prop where
  kp : Keep [d] H0 H
  dr : DrawsAt H d l
  nn : H0 nm = none
  nd : nm ≠ d
  nl : nm ≠ l
  rd : r ≠ d
  rn : r ≠ nm
  pb : PB H r n 2000
  ex : ∃ f : Nat → Nat, H nm = some (.lst (arr n fun x => vi (f x))) ∧ (∀ x, x < n → f x < n) ∧ ∀ x y, x < n → y < n → f x = f y → x = y
def spTurned : Sp := fun vs H Q _ => ∃ (d l r : Addr) (n : Nat), vs = [.ref d, vi n, .ref r] ∧ n ≤ 40 ∧ DrawsAt H d l ∧ PB H r n 2000 ∧ r ≠ d ∧
  ∀ (e : Addr) (H' : Hp) (es : List (Nat × Nat)), Keep [d] H H' → DrawsAt H' d l → H e = none → PL H' e es → EOk n es → Q (.ref e) H'
abbrev sTurned : Stmt := top 32
theorem scTurned : FnScope ["_law_draws", "_law_nodes", "_law_pairs", "_law_names", "_law_v", "_law_at", "_law_held", "_law_edges_here", "_law_u", "_law_k"] ["_law_draws", "_law_nodes", "_law_pairs"] (defScope sTurned) := ⟨rfl, rfl, rfl, by decide +kernel, rfl, by decide +kernel, by decide +kernel⟩
theorem NSt.draw {H0 H H' : Hp} {d l r nm : Addr} {n : Nat} (h : NSt H0 H d l r nm n) (s : Keep [d] H H') (D' : DrawsAt H' d l) : NSt H0 H' d l r nm n := by
  obtain ⟨f, e1, e2, e3⟩ := h.ex
  obtain ⟨xs, er⟩ := h.pb.lst
  exact ⟨h.kp.trans s, D', h.nn, h.nd, h.nl, h.rd, h.rn, h.pb.tk (h.dr.tks s) (by rw [er]; exact s _ _ er (by simpa using h.rd)), f, s _ _ e1 (by simpa using h.nd), e2, e3⟩
theorem swap_inj {f : Nat → Nat} {n v a : Nat} (hv : v < n) (ha : a < n) (h1 : ∀ x, x < n → f x < n) (h2 : ∀ x y, x < n → y < n → f x = f y → x = y) :
    (∀ x, x < n → (if x = a then f v else if x = v then f a else f x) < n) ∧
    ∀ x y, x < n → y < n → (if x = a then f v else if x = v then f a else f x) = (if y = a then f v else if y = v then f a else f y) → x = y := by
  refine ⟨fun x hx => ?_, fun x y hx hy e => ?_⟩
  · split
    · exact h1 v hv
    · split
      · exact h1 a ha
      · exact h1 x hx
  · have q : ∀ z, z < n → ∃ z', z' < n ∧ (if z = a then f v else if z = v then f a else f z) = f z' ∧ z' = (if z = a then v else if z = v then a else z) := by
      intro z hz
      by_cases e1 : z = a
      · exact ⟨v, hv, by simp [e1], by simp [e1]⟩
      · by_cases e2 : z = v
        · exact ⟨a, ha, by rw [if_neg e1, if_pos e2], by rw [if_neg e1, if_pos e2]⟩
        · exact ⟨z, hz, by rw [if_neg e1, if_neg e2], by rw [if_neg e1, if_neg e2]⟩
    obtain ⟨x', x1, x2, x3⟩ := q x hx
    obtain ⟨y', y1, y2, y3⟩ := q y hy
    rw [x2, y2] at e
    have e := h2 x' y' x1 y1 e
    rw [x3, y3] at e
    by_cases e1 : x = a <;> by_cases e2 : y = a <;> by_cases e3 : x = v <;> by_cases e4 : y = v <;> simp_all
theorem ok_turned (D : Dfn K mg "_law_turned" sTurned ["_law_draws", "_law_nodes", "_law_pairs"]) (m_range : mg "range" = none) (m_min : mg "min" = none) (m_max : mg "max" = none) (m_len : mg "len" = none) (m_sorted : mg "sorted" = none)
    (c__law_draw : Cal P w K mg base 2 "_law_draw" spDraw) : Cal P w K mg base 3 "_law_turned" spTurned := by
  refine D.cal scTurned (fun vs H Q E h => ?_) (fun f cdv A outer s H vs Q E hr h => ?_)
  · obtain ⟨d, l, r, n, rfl, _⟩ := h
    rfl
  · obtain ⟨d, l, r, n, rfl, hn, D0, B0, hrd, q⟩ := h
    refine ⟨_, (pss_cons (ps_set (i := 3) scTurned.nd rfl (Or.inr rfl) (pe_lc (own := [("_law_v", 4)]) (g := (gName 4)) (tt := tYes) (by rfl) scTurned.nd (pi_range1 (by rfl) m_range (pa_cons (pv 1) pa_nil)) (blkOk_by (own := [("_law_v", 4)]) (N := ["_law_draws", "_law_nodes", "_law_pairs", "_law_names", "_law_v", "_law_at", "_law_held", "_law_edges_here", "_law_u", "_law_k"]) (sc := defScope sTurned) (by decide +kernel)) (fun _ _ _ _ _ => (pg_name (i := 4) scTurned.nd rfl (Or.inl rfl))) (fun _ _ _ _ _ => pts_nil) (fun _ _ _ _ _ => (pv 4))))
      (Evl.pss_cut (ps_if (pt_cmpR op_eq (pe_op op_mod (qe_c c__law_draw hr (by decide) (by rfl) (pa_cons (pv 0) pa_nil)) pe_int) pe_int (nomark _))
        (pss_one (ps_for PassesOwn.never rfl (pi_range1 (by rfl) m_range (pa_cons (pv 1) pa_nil)) (pg_name (i := 4) scTurned.nd rfl (Or.inl rfl))
          (pss_cons (ps_set (i := 5) scTurned.nd rfl (Or.inl rfl) (pe_op op_mod (qe_c c__law_draw hr (by decide) (by rfl) (pa_cons (pv 0) pa_nil)) (pv 1)))
          (pss_cons (ps_set (i := 6) scTurned.nd rfl (Or.inl rfl) (pe_ix ix_list (pv 3) (pv 4) (fun _ _ => rfl)))
          (pss_cons (ps_asg (pe_ix ix_list (pv 3) (pv 5) (fun _ _ => rfl)) (pg_sub (pv 3) (pv 4) set_list))
          (pss_one (ps_asg (pv 6) (pg_sub (pv 3) (pv 5) set_list))))))))
        pss_nil)
      (pss_cons (ps_set (i := 7) scTurned.nd rfl (Or.inr rfl) (pe_lc (own := [("_law_u", 8), ("_law_v", 4)]) (g := (gTup K 2 (gCons (gName 8) (gCons (gName 4) gNil)))) (tt := tYes) (by rfl) scTurned.nd (pi_list (pv 2)) (blkOk_by (own := [("_law_u", 8), ("_law_v", 4)]) (N := ["_law_draws", "_law_nodes", "_law_pairs", "_law_names", "_law_v", "_law_at", "_law_held", "_law_edges_here", "_law_u", "_law_k"]) (sc := defScope sTurned) (by decide +kernel)) (fun _ _ _ _ _ => (pg_tup rfl (pgs_cons (pg_name (i := 8) scTurned.nd rfl (Or.inl rfl)) (pgs_cons (pg_name (i := 4) scTurned.nd rfl (Or.inl rfl)) pgs_nil)))) (fun _ _ _ _ _ => pts_nil) (fun _ _ _ _ _ => (pe_tup (pa_cons (pe_callB (call_min2 rfl) (by rfl) m_min (by decide +kernel) (pa_cons (pe_ix (ixk K rfl) (pv 3) (pv 8) (fun _ _ => rfl)) (pa_cons (pe_ix (ixk K rfl) (pv 3) (pv 4) (fun _ _ => rfl)) pa_nil))) (pa_cons (pe_callB (call_max2 rfl) (by rfl) m_max (by decide +kernel) (pa_cons (pe_ix (ixk K rfl) (pv 3) (pv 8) (fun _ _ => rfl)) (pa_cons (pe_ix (ixk K rfl) (pv 3) (pv 4) (fun _ _ => rfl)) pa_nil))) pa_nil))))))
      (pss_cons (ps_set (i := 7) scTurned.nd rfl (Or.inr rfl) (pe_callB cr_sortedPO (by rfl) m_sorted (by decide +kernel) (pa_cons (pv 7) pa_nil)))
      (pss_one (ps_ret (pe_lc (own := [("_law_k", 9)]) (g := (gName 9)) (by rfl) scTurned.nd (pi_range1 (by rfl) m_range (pa_cons (pe_callB call_len_seq (by rfl) m_len PySem.boot_len (pa_cons (pv 7) pa_nil)) pa_nil)) (blkOk_by (own := [("_law_k", 9)]) (N := ["_law_draws", "_law_nodes", "_law_pairs", "_law_names", "_law_v", "_law_at", "_law_held", "_law_edges_here", "_law_u", "_law_k"]) (sc := defScope sTurned) (by decide +kernel)) (fun _ _ _ _ _ => (pg_name (i := 9) scTurned.nd rfl (Or.inl rfl))) (fun _ _ _ _ _ => (pts_one (PW.pt (pw_or (pt_cmpR op_eq (pv 9) pe_int (nomark _)) (pw_or1 (pt_cmpR (neDk K rfl hr.units) (pe_ix (ixk K rfl) (pv 7) (pv 9) (fun _ _ => rfl)) (pe_ix (ixk K rfl) (pv 7) (pe_op op_sub (pv 9) pe_int) (fun _ _ => rfl)) (nomark _))))))) (fun _ _ _ _ _ => (pe_ix (ixk K rfl) (pv 7) (pv 9) (fun _ _ => rfl)))))))))), ?_⟩
    refine ⟨_, rfl, _, rfl, by omega, by omega, fun nm hnm => lc_rng0 (n := n) (fun i H' => H' = upd H nm (.lst (nl (List.range i)))) rfl ?_ ?_⟩
    · rintro i H' hi rfl
      refine ⟨rfl, _, rfl, _, upd_same, ?_, ?_⟩
      · rw [List.length_map, List.length_range]; exact small_le (m := 40) (by omega) (by decide)
      · rw [upd_upd, List.range_succ, nl_snoc]
    rintro H1 rfl
    have N1 : NSt H (upd H nm (.lst (nl (List.range n)))) d l r nm n := by
      obtain ⟨xs, ed⟩ := D0.lst
      obtain ⟨_, _, _, el, _⟩ := D0.ex
      obtain ⟨ys, er⟩ := B0.lst
      exact ⟨same_keep (same_new hnm), D0.same (same_new hnm), hnm, (ne_of_none ed hnm).symm, (ne_of_none el hnm).symm, hrd, ne_of_none er hnm, B0.same (same_new hnm), id, upd_same, fun x h => h, fun x y _ _ h => h⟩
    generalize upd H nm (.lst (nl (List.range n))) = H1 at *
    -- if draw % 2 == 0: the swaps
    refine ⟨fun σ H2 => ∃ v4 v5 v6 v8 v9 : Option V, σ = [some (.ref d), some (vi n), some (.ref r), some (.ref nm), v4, v5, v6, none, v8, v9] ∧ NSt H H2 d l r nm n, ?_, ?_⟩
    · refine ⟨_, rfl, d, l, rfl, N1.dr, fun z H2 z0 z1 k2 D2 => ⟨_, _, rfl, rfl, (by show (0 : Int) < 2; decide), rfl, _, rfl, ?_⟩⟩
      have N2 := N1.draw k2 D2
      refine ite2 (fun hc => ?_) (fun hc => ⟨_, _, _, _, _, rfl, N2⟩)
      refine ⟨_, rfl, _, rfl, by omega, by omega, for_rng0 (n := n) (fun i σ H3 => ∃ v4 v5 v6 v8 v9 : Option V, σ = [some (.ref d), some (vi n), some (.ref r), some (.ref nm), v4, v5, v6, none, v8, v9] ∧ NSt H H3 d l r nm n) ⟨_, _, _, _, _, rfl, N2⟩ ?_ fun σ H3 h => h⟩
      rintro v σ H3 hv ⟨v4, v5, v6, v8, v9, rfl, N3⟩
      refine ⟨_, rfl, d, l, rfl, N3.dr, fun z4 H4 z0 z1 k4 D4 => ⟨_, rfl, _, _, rfl, rfl, (by show (0 : Int) < (n : Int); omega), ?_⟩⟩
      have N4 := N3.draw k4 D4
      obtain ⟨a, ea, la⟩ := mod_nat z4 (n := n) (by omega)
      obtain ⟨g, e1, e2, e3⟩ := N4.ex
      have e4 : upd H4 nm (.lst ((arr n fun x => vi (g x)).set v (vi (g a)))) nm = some (.lst (arr n fun x => if x = v then vi (g a) else vi (g x))) := by rw [upd_same, arr_set]
      refine ⟨_, rfl, _, rfl, nm, _, _, _, rfl, rfl, SqL.of e1, arr_at hv, ?_⟩
      refine ⟨_, rfl, _, rfl, nm, _, _, _, rfl, rfl, SqL.of e1, at_of ea (arr_get la), _, rfl, _, rfl, nm, _, _, v, rfl, rfl, e1, (by rw [arr_len]; exact ixN_nat hv), ?_⟩
      refine ⟨_, rfl, _, rfl, _, rfl, nm, _, _, a, rfl, rfl, e4, (by rw [arr_len]; show ixN n (z4 % (n : Int)) = some a; rw [ea]; exact ixN_nat la), ?_⟩
      obtain ⟨i1, i2⟩ := swap_inj (f := g) hv la e2 e3
      refine ⟨_, _, _, _, _, rfl, ?_⟩
      have kk : Keep [nm] H4 (upd (upd H4 nm (.lst ((arr n fun x => vi (g x)).set v (vi (g a))))) nm (.lst ((arr n fun x => if x = v then vi (g a) else vi (g x)).set a (vi (g v))))) := (Keep.put (by simp)).trans (Keep.put (by simp))
      obtain ⟨xs, er⟩ := N4.pb.lst
      obtain ⟨_, _, ed, el, _⟩ := N4.dr.ex
      refine ⟨fun b o hb hs => kk b o (N4.kp b o hb hs) ?_, N4.dr.keep ?_ ?_, N4.nn, N4.nd, N4.nl, N4.rd, N4.rn, N4.pb.tk (TK.keep kk (no_tup e1)) (by rw [er]; exact kk _ _ er (by simpa using N4.rn)), _, ?_, i1, i2⟩
      · intro hm
        rw [List.mem_singleton.mp hm, N4.nn] at hb
        cases hb
      · rw [ed]; exact kk _ _ ed (by simpa using N4.nd.symm)
      · rw [el]; exact kk _ _ el (by simpa using N4.nl.symm)
      · rw [upd_same, arr_set]
        congr 2
        apply List.map_congr_left
        intro x _
        show (if x = a then vi (g v) else if x = v then vi (g a) else vi (g x)) = vi (if x = a then g v else if x = v then g a else g x)
        by_cases h1 : x = a
        · rw [if_pos h1, if_pos h1]
        · by_cases h2 : x = v
          · rw [if_neg h1, if_neg h1, if_pos h2, if_pos h2]
          · rw [if_neg h1, if_neg h1, if_neg h2, if_neg h2]
    · rintro σ H2 ⟨v4, v5, v6, v8, v9, rfl, N2⟩
      obtain ⟨g, e1, e2, e3⟩ := N2.ex
      obtain ⟨ps, ⟨ts, r1, r2⟩, r3, r4⟩ := N2.pb.ex
      -- the turned pairs
      refine ⟨_, rfl, r, rfl, ⟨_, SqL.of r1⟩, fun D1 hD1 => lc_list (K := K) (a := r) (xs := ts.map V.ref) (fun i H' => Same H2 H' ∧ ∃ fs, PL H' D1 fs ∧ PrOk n fs ∧ fs.length ≤ i)
        ⟨same_new hD1, [], ⟨[], upd_same, .nil⟩, .nil, Nat.le_refl _⟩ (fun i H' _ h => h.1.seq (SqL.of r1)) ?_ ?_⟩
      · rintro i x H' hx ⟨sm, fs, f1, f2, f3⟩
        obtain ⟨t, e, rfl, he, _, ht⟩ := r2.get hx
        have hi : i ≤ 2000 := by
          have := (List.getElem?_eq_some_iff.mp he).1
          omega
        have hlt := r3 e (List.mem_of_getElem? he)
        have hne : g e.1 ≠ g e.2 := fun q => by
          have := e3 e.1 e.2 (by omega) hlt.2 q
          omega
        have l1 := e2 e.1 (by omega)
        have l2 := e2 e.2 hlt.2
        refine ⟨t, _, rfl, SqT.of (sm _ _ ht), rfl, _, _, rfl, _, _, rfl, rfl, rfl, ?_⟩
        refine ⟨_, rfl, _, rfl, nm, _, _, _, rfl, rfl, SqL.of (sm _ _ e1), arr_at (show e.1 < n by omega), _, rfl, _, rfl, nm, _, _, _, rfl, rfl, SqL.of (sm _ _ e1), arr_at hlt.2, _, _, rfl, ?_⟩
        refine ⟨_, rfl, _, rfl, nm, _, _, _, rfl, rfl, SqL.of (sm _ _ e1), arr_at (show e.1 < n by omega), _, rfl, _, rfl, nm, _, _, _, rfl, rfl, SqL.of (sm _ _ e1), arr_at hlt.2, _, _, rfl, ?_⟩
        refine ⟨(by show 2 ≤ sizeLine; decide), fun u hu => ?_⟩
        obtain ⟨acc, a1, a2, a3, a4⟩ := f1.put (by omega) hu (x := if (g e.2 : Int) < (g e.1 : Int) then (g e.2 : Int) else (g e.1 : Int)) (y := if (g e.2 : Int) > (g e.1 : Int) then (g e.2 : Int) else (g e.1 : Int)) (min (g e.1) (g e.2), max (g e.1) (g e.2))
          (by split <;> (simp only; omega)) (by split <;> (simp only; omega))
        refine ⟨acc, a1, a2, Keep.back sm a4 (by simpa using hD1), _, a3, f2.snoc ⟨by simp only; omega, by simp only; omega⟩, by simp; omega⟩
      rintro H3 ⟨sm, fs, f1, f2, f3⟩
      obtain ⟨us, u1, u2⟩ := f1.ex
      have hfl : fs.length ≤ 2000 := by
        rw [List.length_map, r2.len] at f3
        omega
      obtain ⟨c1, c2⟩ := sorted_pairs u2
      -- sorted
      refine ⟨_, rfl, D1, _, kOf H3, rfl, SqL.of u1, c1, fun ys p hs hst hp => ?_⟩
      obtain ⟨vs, es, rfl, v2, v3, v4'⟩ := c2 ys hs hst.perm
      have s4 : Same H3 (upd H3 p (.lst (vs.map V.ref))) := same_new hp
      have hp4 : upd H3 p (.lst (vs.map V.ref)) p = some (.lst (vs.map V.ref)) := upd_same
      have v2 := v2.tk (TK.same s4)
      have sm4 := sm.trans s4
      have hesn : es.length ≤ 2000 := by rw [v3.length_eq]; exact hfl
      have hes : PrOk n es := fun e he => f2 e (v3.mem_iff.mp he)
      have hpn : H2 p = none := sm.free hp
      generalize upd H3 p (.lst (vs.map V.ref)) = H4 at *
      -- none twice
      refine ⟨_, rfl, _, _, rfl, .inl (SqL.of hp4), _, rfl, by omega, (by rw [List.length_map, v2.len]; omega), fun D2 hD2 => lc_rng0 (n := (vs.map V.ref).length) (fun i H' => Same H4 H' ∧ ∃ gs, PL H' D2 gs ∧ PrOk n gs ∧ gs.length ≤ i ∧ gs.Pairwise ltE ∧ ∀ e ∈ gs, 0 < i ∧ ∃ last, es[i - 1]? = some last ∧ (e = last ∨ ltE e last))
        ⟨same_new hD2, [], ⟨[], upd_same, .nil⟩, .nil, Nat.le_refl _, .nil, fun e h => by simp at h⟩ ?_ ?_⟩
      · rintro i H5 hi ⟨sm5, gs, g1, g2, g3, g4, g5⟩
        rw [List.length_map] at hi
        have hi' : i < es.length := by rw [← v2.len]; exact hi
        have ei : es[i]? = some es[i] := List.getElem?_eq_getElem hi'
        obtain ⟨t, t1, t2, t3⟩ := v2.get' ei
        have hput : (∀ e ∈ gs, ltE e es[i]) → ∃ acc, H5 D2 = some (.lst acc) ∧ acc.length < sizeLine ∧ (Same H4 (upd H5 D2 (.lst (acc ++ [.ref t]))) ∧ ∃ gs, PL (upd H5 D2 (.lst (acc ++ [.ref t]))) D2 gs ∧ PrOk n gs ∧ gs.length ≤ i + 1 ∧ gs.Pairwise ltE ∧
            ∀ e ∈ gs, 0 < i + 1 ∧ ∃ last, es[i + 1 - 1]? = some last ∧ (e = last ∨ ltE e last)) := by
          intro hlt
          obtain ⟨acc, a1, a2, a3, a4⟩ := g1.put' (by omega) (sm5 _ _ t3)
          refine ⟨acc, a1, a2, Keep.back sm5 a4 (by simpa using hD2), gs ++ [es[i]], a3, g2.snoc (hes _ (List.getElem_mem hi')), by simp; omega, ?_, ?_⟩
          · refine List.pairwise_append.mpr ⟨g4, by simp, fun a ha b hb => ?_⟩
            rw [List.mem_singleton.mp hb]; exact hlt a ha
          · intro e he
            refine ⟨by omega, es[i], ei, ?_⟩
            rcases List.mem_append.mp he with h | h
            · exact .inr (hlt e h)
            · exact .inl (List.mem_singleton.mp h)
        refine ⟨rfl, _, rfl, rfl, _, rfl, ite2 (fun hc => ?_) (fun hc => ?_)⟩
        · have hi0 : i = 0 := by
            have := of_decide_eq_true hc
            injection this with this
            omega
          refine ⟨_, rfl, _, rfl, p, _, _, _, rfl, rfl, SqL.of (sm5 _ _ hp4), atI_nat t2, hput fun e he => ?_⟩
          have := (g5 e he).1
          omega
        · have hi0 : i ≠ 0 := fun q => hc (decide_eq_true (by rw [q]; rfl))
          have hj : i - 1 < es.length := by omega
          have ej : es[i - 1]? = some es[i - 1] := List.getElem?_eq_getElem hj
          obtain ⟨u, b1, b2, b3⟩ := v2.get' ej
          refine ⟨_, rfl, _, rfl, p, _, _, _, rfl, rfl, SqL.of (sm5 _ _ hp4), atI_nat t2, _, rfl, _, rfl, _, _, rfl, rfl, p, _, _, _, rfl, rfl, SqL.of (sm5 _ _ hp4), at_of (j := i - 1) (by show (i : Int) - 1 = ((i - 1 : Nat) : Int); omega) b2, ?_⟩
          refine ⟨pdT es[i], pdT es[i - 1], dp_tup (sm5 _ _ t3), dp_tup (sm5 _ _ b3), shaped_pdT _, shaped_pdT _, _, rfl, ?_⟩
          rw [eqv_pdT]
          have hord : ¬ ltE es[i] es[i - 1] := List.pairwise_iff_getElem.mp v4' (i - 1) i hj hi' (by omega)
          by_cases hne : es[i] = es[i - 1]
          · rw [decide_eq_true hne]
            refine iteF ⟨sm5, gs, g1, g2, by omega, g4, fun e he => ⟨by omega, es[i], ei, ?_⟩⟩
            obtain ⟨_, last, l1, l2⟩ := g5 e he
            rw [ej] at l1
            rw [hne, Option.some.inj l1]; exact l2
          · rw [decide_eq_false hne]
            refine ⟨_, rfl, _, rfl, p, _, _, _, rfl, rfl, SqL.of (sm5 _ _ hp4), atI_nat t2, hput fun e he => ?_⟩
            obtain ⟨_, last, l1, l2⟩ := g5 e he
            rw [ej] at l1
            have l1 := Option.some.inj l1
            have hlt : ltE es[i - 1] es[i] := by
              unfold ltE at hord ⊢
              have : ¬ (es[i].1 = es[i - 1].1 ∧ es[i].2 = es[i - 1].2) := fun q => hne (Prod.ext q.1 q.2)
              omega
            rcases l2 with l2 | l2
            · rw [l2, ← l1]; exact hlt
            · rw [← l1] at l2
              unfold ltE at *
              omega
      · rintro H5 ⟨sm5, gs, g1, g2, _, g4, _⟩
        refine q D2 H5 gs ?_ ?_ ?_ g1 ⟨g2, g4, hn⟩
        · exact (N2.kp.trans (same_keep sm4)).trans (same_keep sm5)
        · exact (N2.dr.same sm4).same sm5
        · cases e : H D2 with
          | none => rfl
          | some o =>
            have nd : D2 ≠ d := by
              obtain ⟨xs, ed⟩ := (N2.dr.same sm4).lst
              exact (ne_of_none ed hD2).symm
            rw [sm4 _ _ (N2.kp _ _ e (by simpa using nd))] at hD2
            cases hD2
end
end Cherry
namespace Cherry
open PySem PySem.Spec PyProof.Rows L2
section
variable {P : Program} {w : World} {K : PySem.W.Frag} {mg : Str → Option Value} {base : Heap}

def spEdges : Sp := fun vs H Q _ => ∃ (d l : Addr) (n : Nat), vs = [.ref d, vi n] ∧ n ≤ 40 ∧ DrawsAt H d l ∧
  ∀ (e : Addr) (H' : Hp) (es : List (Nat × Nat)), Keep [d] H H' → DrawsAt H' d l → H e = none → PL H' e es → EOk n es → Q (.ref e) H'
abbrev sEdges : Stmt := top 33
theorem scEdges : FnScope ["_law_draws", "_law_nodes"] ["_law_draws", "_law_nodes"] (defScope sEdges) := ⟨rfl, rfl, rfl, by decide +kernel, rfl, by decide +kernel, by decide +kernel⟩
theorem ok_edges (D : Dfn K mg "_law_edges" sEdges ["_law_draws", "_law_nodes"]) (c__law_turned : Cal P w K mg base 3 "_law_turned" spTurned) (c__law_some_pairs : Cal P w K mg base 3 "_law_some_pairs" spPairs) :
    Cal P w K mg base 4 "_law_edges" spEdges := by
  refine D.cal scEdges (fun vs H Q E h => ?_) (fun f cdv A outer s H vs Q E hr h => ?_)
  · obtain ⟨d, l, n, rfl, _⟩ := h
    rfl
  · obtain ⟨d, l, n, rfl, hn, D0, q⟩ := h
    refine ⟨_, (pss_one (ps_ret (qe_c c__law_turned hr (by decide) (by rfl) (pa_cons (pv 0) (pa_cons (pv 1) (pa_cons (qe_c c__law_some_pairs hr (by decide) (by rfl) (pa_cons (pv 0) (pa_cons (pv 1) pa_nil))) pa_nil)))))), ?_⟩
    refine ⟨_, rfl, _, rfl, _, rfl, _, rfl, d, l, n, rfl, hn, D0, fun r H1 P1 => ?_⟩
    refine ⟨d, l, r, n, rfl, hn, P1.dr, P1.pb, P1.nd, fun e H2 es k2 D2 he pl ok => ?_⟩
    refine q e H2 es (P1.kp.trans k2) D2 ?_ pl ok
    cases e1 : H e with
    | none => rfl
    | some o =>
      have nd : e ≠ d := by
        obtain ⟨xs, ed⟩ := P1.dr.lst
        exact (ne_of_none ed he).symm
      rw [P1.kp _ _ e1 (by simpa using nd)] at he
      cases he

/-- rows that grow: the list of rows at D, all new since H0 -/
structure ASt (H0 H : Hp) (D : Addr) (rs : List Addr) (n : Nat) (lk : Nat → List Nat) : Prop where
  sm : Same H0 H
  nD : H0 D = none
  hD : H D = some (.lst (rs.map V.ref))
  nd : rs.Nodup
  Dr : D ∉ rs
  nr : ∀ r ∈ rs, H0 r = none
  rw : Rws H rs n lk
theorem ASt.app {H0 H : Hp} {D r : Addr} {rs : List Addr} {n u v : Nat} {lk : Nat → List Nat} (h : ASt H0 H D rs n lk) (hr : rs[u]? = some r) :
    ASt H0 (upd H r (.lst (nl (lk u) ++ [vi v]))) D rs n (fun x => lk x ++ (if x = u then [v] else [])) := by
  have hm := List.mem_of_getElem? hr
  refine ⟨Keep.back h.sm (Keep.put (S := [r]) (by simp)) (by simpa using h.nr r hm), h.nD, ?_, h.nd, h.Dr, h.nr, h.rw.len, fun i r' hi => ?_⟩
  · rw [upd_ne (fun q => h.Dr (by rw [q]; exact hm))]; exact h.hD
  · by_cases e : i = u
    · subst e
      rw [hr] at hi
      cases hi
      rw [upd_same, if_pos rfl, nl_snoc]
    · have ne : r' ≠ r := fun q => e (nd_ix h.nd hi (by rw [q]; exact hr))
      rw [upd_ne ne, if_neg e, List.append_nil]
      exact h.rw.at_ i r' hi
theorem ASt.lk_eq {H0 H : Hp} {D : Addr} {rs : List Addr} {n : Nat} {lk lk' : Nat → List Nat} (h : ASt H0 H D rs n lk) (e : ∀ x, lk x = lk' x) : ASt H0 H D rs n lk' := by
  have : lk = lk' := funext e
  rw [← this]; exact h
/-- one edge brings its two nodes into the rows -/
theorem lkOf_step {es : List (Nat × Nat)} {e : Nat × Nat} (hlt : e.1 < e.2) (x : Nat) : lkOf es x ++ (if x = e.1 then [e.2] else []) ++ (if x = e.2 then [e.1] else []) = lkOf (es ++ [e]) x := by
  rw [lkOf_snoc]
  by_cases h1 : x = e.1
  · subst h1
    rw [if_pos rfl, if_pos rfl, if_neg (by omega), List.append_nil]
  · by_cases h2 : x = e.2
    · subst h2
      rw [if_neg (by omega), if_pos rfl, if_neg (by omega), List.append_nil]
      all_goals simp
    · rw [if_neg h1, if_neg h2, if_neg (fun q => h1 q.symm), if_neg (fun q => h2 q.symm)]; simp
/-- the start: n empty lists -/
structure ESt (H0 H : Hp) (D : Addr) (k : Nat) : Prop where
  sm : Same H0 H
  ex : ∃ rs : List Addr, H D = some (.lst (rs.map V.ref)) ∧ rs.length = k ∧ rs.Nodup ∧ D ∉ rs ∧ (∀ r ∈ rs, H0 r = none ∧ H r = some (.lst []))
theorem ESt.start {H0 : Hp} {D : Addr} (h : H0 D = none) : ESt H0 (upd H0 D (.lst [])) D 0 := ⟨same_new h, [], upd_same, rfl, List.nodup_nil, by simp, by simp⟩
theorem ESt.turn {H0 H : Hp} {D p : Addr} {k : Nat} (h : ESt H0 H D k) (hk : k ≤ 40) (nD : H0 D = none) (hp : H p = none) :
    ∃ acc, upd H p (.lst []) D = some (.lst acc) ∧ acc.length < sizeLine ∧ ESt H0 (upd (upd H p (.lst [])) D (.lst (acc ++ [.ref p]))) D (k + 1) := by
  obtain ⟨rs, h1, h2, h3, h4, h5⟩ := h.ex
  have npD : D ≠ p := ne_of_none h1 hp
  have hpr : p ∉ rs := fun hm => by
    rw [(h5 p hm).2] at hp
    cases hp
  refine ⟨_, by rw [upd_ne npD]; exact h1, by rw [List.length_map, h2]; exact small_le hk (by decide), ⟨?_, rs ++ [p], by rw [upd_same, List.map_append]; rfl, by simp [h2], ?_, ?_, ?_⟩⟩
  · exact Keep.back (h.sm.trans (same_new hp)) (Keep.put (S := [D]) (by simp)) (by simpa using nD)
  · refine List.nodup_append.mpr ⟨h3, by simp, fun a ha b hb e => ?_⟩
    rw [List.mem_singleton.mp hb] at e
    exact hpr (e ▸ ha)
  · intro hm
    rcases List.mem_append.mp hm with hm | hm
    · exact h4 hm
    · exact npD (List.mem_singleton.mp hm)
  · intro r hm
    rcases List.mem_append.mp hm with hm | hm
    · have nr : r ≠ p := fun q => hpr (q ▸ hm)
      have nrD : r ≠ D := fun q => h4 (q ▸ hm)
      exact ⟨(h5 r hm).1, by rw [upd_ne nrD, upd_ne nr]; exact (h5 r hm).2⟩
    · rw [List.mem_singleton.mp hm]
      exact ⟨h.sm.free hp, by rw [upd_ne npD.symm, upd_same]⟩
theorem ESt.done {H0 H : Hp} {D : Addr} {n : Nat} (h : ESt H0 H D n) (nD : H0 D = none) : ∃ rs, ASt H0 H D rs n (lkOf []) := by
  obtain ⟨rs, h1, h2, h3, h4, h5⟩ := h.ex
  exact ⟨rs, h.sm, nD, h1, h3, h4, fun r hm => (h5 r hm).1, h2, fun i r hi => (h5 r (List.mem_of_getElem? hi)).2⟩
/-- the end: each row sorted into a new list -/
structure FSt (H0 H : Hp) (D : Addr) (k : Nat) (lk : Nat → List Nat) : Prop where
  sm : Same H0 H
  ex : ∃ ss : List Addr, H D = some (.lst (ss.map V.ref)) ∧ ss.length = k ∧ D ∉ ss ∧ ∀ (j : Nat) (r : Addr), ss[j]? = some r → H r = some (.lst (nl (lk j)))
theorem FSt.start {H0 : Hp} {D : Addr} {lk : Nat → List Nat} (h : H0 D = none) : FSt H0 (upd H0 D (.lst [])) D 0 lk := ⟨same_new h, [], upd_same, rfl, by simp, by simp⟩
theorem FSt.turn {H0 H : Hp} {D p : Addr} {k : Nat} {lk : Nat → List Nat} (h : FSt H0 H D k lk) (hk : k ≤ 40) (nD : H0 D = none) (hp : H p = none) :
    ∃ acc, upd H p (.lst (nl (lk k))) D = some (.lst acc) ∧ acc.length < sizeLine ∧ FSt H0 (upd (upd H p (.lst (nl (lk k)))) D (.lst (acc ++ [.ref p]))) D (k + 1) lk := by
  obtain ⟨ss, h1, h2, h4, h5⟩ := h.ex
  have npD : D ≠ p := ne_of_none h1 hp
  refine ⟨_, by rw [upd_ne npD]; exact h1, by rw [List.length_map, h2]; exact small_le hk (by decide), ⟨?_, ss ++ [p], by rw [upd_same, List.map_append]; rfl, by simp [h2], ?_, ?_⟩⟩
  · exact Keep.back (h.sm.trans (same_new hp)) (Keep.put (S := [D]) (by simp)) (by simpa using nD)
  · intro hm
    rcases List.mem_append.mp hm with hm | hm
    · exact h4 hm
    · exact npD (List.mem_singleton.mp hm)
  · intro j r hj
    by_cases hlt : j < ss.length
    · rw [List.getElem?_append_left hlt] at hj
      have hr := h5 j r hj
      have nr : r ≠ p := ne_of_none hr hp
      have nrD : r ≠ D := fun q => h4 (q ▸ List.mem_of_getElem? hj)
      rw [upd_ne nrD, upd_ne nr]; exact hr
    · rw [List.getElem?_append_right (by omega)] at hj
      have hj0 : j - ss.length = 0 := by
        have := (List.getElem?_eq_some_iff.mp hj).1
        simp at this
        omega
      rw [hj0] at hj
      cases hj
      have : j = k := by omega
      rw [upd_ne npD.symm, upd_same, this]
theorem FSt.done {H0 H : Hp} {D : Addr} {n : Nat} {lk : Nat → List Nat} (h : FSt H0 H D n lk) : RL H D n lk := by
  obtain ⟨ss, h1, h2, h4, h5⟩ := h.ex
  exact ⟨ss, h1, h2, h5⟩

def spAround : Sp := fun vs H Q _ => ∃ (n : Nat) (e : Addr) (es : List (Nat × Nat)), vs = [vi n, .ref e] ∧ PL H e es ∧ EOk n es ∧
  ∀ (a : Addr) (H' : Hp), Same H H' → H a = none → RL H' a n (lks n es) → Q (.ref a) H'
abbrev sAround : Stmt := top 34
theorem scAround : FnScope ["_law_nodes", "_law_edges_here", "_law_around_here", "_law_u", "_law_v", "_law_row"] ["_law_nodes", "_law_edges_here"] (defScope sAround) := ⟨rfl, rfl, rfl, by decide +kernel, rfl, by decide +kernel, by decide +kernel⟩
theorem ok_around (D : Dfn K mg "_law_around" sAround ["_law_nodes", "_law_edges_here"]) (m_range : mg "range" = none) (m_sorted : mg "sorted" = none) : Cal P w K mg base 1 "_law_around" spAround := by
  refine D.cal scAround (fun vs H Q E h => ?_) (fun f cdv A outer s H vs Q E hr h => ?_)
  · obtain ⟨n, e, es, rfl, _⟩ := h
    rfl
  · obtain ⟨n, e, es, rfl, pl, ok, q⟩ := h
    have hn := ok.n40
    refine ⟨_, (pss_cons (ps_setLc (i := 2) (own := [("_law_v", 4)]) (g := (gName 4)) (tt := tYes) (by rfl) scAround.nd rfl rfl (sw_true rfl rfl rfl (by decide +kernel)) (pi_range1 (by rfl) m_range (pa_cons (pv 0) pa_nil)) (blkOk_by (own := [("_law_v", 4)]) (N := ["_law_nodes", "_law_edges_here", "_law_around_here", "_law_u", "_law_v", "_law_row"]) (sc := defScope sAround) (by decide +kernel)) (fun _ _ _ _ _ => (pg_name (i := 4) scAround.nd rfl (Or.inl rfl))) (fun _ _ _ _ _ => pts_nil) (fun _ _ _ _ _ => (pe_lst pa_nil)))
      (pss_cons (ps_for PassesOwn.never rfl (pi_list (pv 1)) (pg_tup rfl (pgs_cons (pg_name (i := 3) scAround.nd rfl (Or.inl rfl)) (pgs_cons (pg_name (i := 4) scAround.nd rfl (Or.inl rfl)) pgs_nil)))
        (pss_cons (ps_expr (pe_bm PySem.F.plainAttrs_list PySem.F.slot_list_append PySem.F.type_list_append mt_append (pe_ix ix_list (pv 2) (pv 3) (fun _ _ => rfl)) (pa_cons (pv 4) pa_nil)))
        (pss_one (ps_expr (pe_bm PySem.F.plainAttrs_list PySem.F.slot_list_append PySem.F.type_list_append mt_append (pe_ix ix_list (pv 2) (pv 4) (fun _ _ => rfl)) (pa_cons (pv 3) pa_nil))))))
      (pss_one (ps_ret (pe_lc (own := [("_law_row", 5)]) (g := (gName 5)) (tt := tYes) (by rfl) scAround.nd (pi_list (pv 2)) (blkOk_by (own := [("_law_row", 5)]) (N := ["_law_nodes", "_law_edges_here", "_law_around_here", "_law_u", "_law_v", "_law_row"]) (sc := defScope sAround) (by decide +kernel)) (fun _ _ _ _ _ => (pg_name (i := 5) scAround.nd rfl (Or.inl rfl))) (fun _ _ _ _ _ => pts_nil) (fun _ _ _ _ _ => (pe_callB (sortIk K rfl) (by rfl) m_sorted (by decide +kernel) (pa_cons (pv 5) pa_nil)))))))), ?_⟩
    refine ⟨_, rfl, _, rfl, by omega, by omega, fun D1 hD1 => lc_rng0 (n := n) (fun i H' => ESt H H' D1 i) (.start hD1) ?_ ?_⟩
    · intro i H' hi S
      exact ⟨rfl, Nat.zero_le _, fun p hp => S.turn (by omega) hD1 hp⟩
    intro H1 S1
    obtain ⟨rs, A1⟩ := S1.done hD1
    obtain ⟨ts, e1, e2⟩ := (pl.same S1.sm).ex
    obtain ⟨ts0, e10, e20⟩ := pl.ex
    refine ⟨_, rfl, e, rfl, ⟨_, SqL.of e10 |> S1.sm.seq⟩, for_list (K := K) (a := e) (xs := ts0.map V.ref) (fun i σ H' => ∃ v3 v4 v5 : Option V, σ = [some (vi n), some (.ref e), some (.ref D1), v3, v4, v5] ∧ ASt H H' D1 rs n (lkOf (es.take i)))
      ⟨_, _, _, rfl, A1⟩ (fun i σ H' _ ⟨_, _, _, _, A⟩ => A.sm.seq (SqL.of e10)) ?_ ?_⟩
    · rintro i x σ H' hx ⟨v3, v4, v5, rfl, A⟩
      obtain ⟨t, f, rfl, hf, _, ht⟩ := e20.get hx
      have hlt := ok.lt f (List.mem_of_getElem? hf)
      obtain ⟨r1, a1, a2, a3⟩ := A.rw.get (show f.1 < n by omega)
      refine ⟨t, _, rfl, SqT.of (A.sm _ _ ht), rfl, _, _, rfl, _, _, rfl, rfl, ?_⟩
      refine ⟨_, rfl, _, rfl, D1, _, _, _, rfl, rfl, SqL.of A.hD, atI_nat a2, .inl ⟨rfl, _, SqL.of a3⟩, _, rfl, r1, _, _, rfl, rfl, a3, ?_, ?_⟩
      · rw [nl_len]
        exact small_le (Nat.le_trans (lkOf_len _ _) (Nat.le_trans (by rw [List.length_take]; exact Nat.min_le_right ..) ok.len)) (by decide)
      have A' := A.app (v := f.2) a1
      obtain ⟨r2, b1, b2, b3⟩ := A'.rw.get (show f.2 < n by omega)
      refine ⟨_, rfl, _, rfl, D1, _, _, _, rfl, rfl, SqL.of A'.hD, atI_nat b2, .inl ⟨rfl, _, SqL.of b3⟩, _, rfl, r2, _, _, rfl, rfl, b3, ?_, ?_⟩
      · rw [nl_len, List.length_append]
        have h1 := lkOf_len (es.take i) f.2
        rw [List.length_take] at h1
        have h2 := ok.len
        refine small_le (m := 1601) ?_ (by decide)
        split <;> (simp; omega)
      have A'' := A'.app (v := f.1) b1
      refine ⟨_, _, _, rfl, A''.lk_eq fun x => ?_⟩
      rw [lkOf_step hlt.1, List.take_add_one, hf]
      rfl
    · rintro σ H' ⟨v3, v4, v5, rfl, A⟩
      have A : ASt H H' D1 rs n (lkOf es) := by
        rw [List.length_map, e20.len, List.take_length] at A
        exact A
      refine ⟨_, rfl, D1, rfl, ⟨_, SqL.of A.hD⟩, fun D2 hD2 => lc_list (K := K) (a := D1) (xs := rs.map V.ref) (fun i H2 => FSt H' H2 D2 i (lks n es)) (.start hD2) (fun i H2 _ F => F.sm.seq (SqL.of A.hD)) ?_ ?_⟩
      · rintro i x H2 hx F
        rw [List.getElem?_map] at hx
        cases hi : rs[i]? with
        | none => rw [hi] at hx; cases hx
        | some r =>
          rw [hi] at hx
          cases hx
          have hr := F.sm _ _ (A.rw.at_ i r hi)
          have hin : i < n := by
            rw [← A.rw.len]; exact (List.getElem?_eq_some_iff.mp hi).1
          refine ⟨rfl, _, rfl, r, (lkOf es i).map (fun x : Nat => (x : Int)), rfl, by rw [← nl_ints]; exact SqL.of hr, fun ns' p hp hs hn => ?_⟩
          rw [sorted_row ok hp hs]
          exact F.turn (by omega) hD2 hn
      · intro H2 F
        rw [List.length_map, A.rw.len] at F
        exact q D2 H2 (A.sm.trans F.sm) (A.sm.free hD2) F.done
end
end Cherry
namespace Cherry
open PySem PySem.Spec PyProof.Rows L2
section
variable {P : Program} {w : World} {K : PySem.W.Frag} {mg : Str → Option Value} {base : Heap}

def spIsInteger : Sp := fun vs H Q _ => ∃ i : Int, vs = [.int i] ∧ Q (.bl true) H
abbrev sIsInteger : Stmt := top 12
theorem scIsInteger : FnScope ["value"] ["value"] (defScope sIsInteger) := ⟨rfl, rfl, rfl, by decide +kernel, rfl, by decide +kernel, by decide +kernel⟩
theorem ok_is_integer (D : Dfn K mg "is_integer" sIsInteger ["value"]) (m_isinstance : mg "isinstance" = none) (m_int : mg "int" = none) (m_bool : mg "bool" = none) : Cal P w K mg base 1 "is_integer" spIsInteger := by
  refine D.cal scIsInteger (fun vs H Q E h => ?_) (fun f cdv A outer s H vs Q E hr h => ?_)
  · obtain ⟨i, rfl, _⟩ := h
    rfl
  · obtain ⟨i, rfl, q⟩ := h
    refine ⟨_, (pss_one (ps_ret (pe_and (pe_callB call_isi (by rfl) m_isinstance (by decide +kernel) (pa_cons (pv 0) (pa_cons (pe_bltn (v := .ty "int") (u := .type "int") (by rfl) m_int (by decide +kernel) rfl) pa_nil))) (pe_one (pe_not (pe_callB call_isi (by rfl) m_isinstance (by decide +kernel) (pa_cons (pv 0) (pa_cons (pe_bltn (v := .ty "bool") (u := .type "bool") (by rfl) m_bool (by decide +kernel) rfl) pa_nil)))))))), ?_⟩
    exact ⟨_, rfl, _, _, _, _, true, rfl, .ty _, .base (.int i), kit_ty k_ii, true, rfl, _, rfl, _, _, _, _, false, rfl, .ty _, .base (.int i), kit_ty k_ib, false, rfl, q⟩
def spIsIndex : Sp := fun vs H Q _ => ∃ i n : Int, vs = [.int i, .int n] ∧ 0 ≤ i ∧ i < n ∧ Q (.bl true) H
abbrev sIsIndex : Stmt := top 13
theorem scIsIndex : FnScope ["value", "bound"] ["value", "bound"] (defScope sIsIndex) := ⟨rfl, rfl, rfl, by decide +kernel, rfl, by decide +kernel, by decide +kernel⟩
theorem ok_is_index (D : Dfn K mg "is_index" sIsIndex ["value", "bound"]) (c_is_integer : Cal P w K mg base 1 "is_integer" spIsInteger) : Cal P w K mg base 2 "is_index" spIsIndex := by
  refine D.cal scIsIndex (fun vs H Q E h => ?_) (fun f cdv A outer s H vs Q E hr h => ?_)
  · obtain ⟨i, n, rfl, _⟩ := h
    rfl
  · obtain ⟨i, n, rfl, h0, hn, q⟩ := h
    refine ⟨_, (pss_one (ps_ret (pe_and (qe_c c_is_integer hr (by decide) (by rfl) (pa_cons (pv 0) pa_nil)) (pe_one (pe_chain op_le op_lt pe_int (pv 0) (pv 1)))))), ?_⟩
    refine ⟨_, rfl, i, rfl, true, rfl, _, rfl, _, _, rfl, rfl, _, rfl, ifT (decide_eq_true h0) ⟨_, rfl, _, _, rfl, rfl, ?_⟩⟩
    show Q (V.bl (decide (i < (n : Int)))) H
    rw [decide_eq_true hn]
    exact q
def spCheckEdges : Sp := fun vs H Q _ => ∃ (n : Nat) (e : Addr) (es : List (Nat × Nat)), vs = [vi n, .ref e] ∧ PL H e es ∧ EOk n es ∧ ∀ H', Same H H' → Q .non H'
abbrev sCheckEdges : Stmt := top 15
theorem scCheckEdges : FnScope ["nodes", "edges", "last", "edge"] ["nodes", "edges"] (defScope sCheckEdges) := ⟨rfl, rfl, rfl, by decide +kernel, rfl, by decide +kernel, by decide +kernel⟩
theorem ok_check_edges (D : Dfn K mg "check_edges" sCheckEdges ["nodes", "edges"]) (mM : ∃ t, mg "MOST" = some (.int 40 t)) (m_isinstance : mg "isinstance" = none) (m_list : mg "list" = none) (m_tuple : mg "tuple" = none) (m_len : mg "len" = none)
    (c_is_integer : Cal P w K mg base 1 "is_integer" spIsInteger) (c_is_index : Cal P w K mg base 2 "is_index" spIsIndex) : Cal P w K mg base 3 "check_edges" spCheckEdges := by
  obtain ⟨tM, m_MOST⟩ := mM
  refine D.cal scCheckEdges (fun vs H Q E h => ?_) (fun f cdv A outer s H vs Q E hr h => ?_)
  · obtain ⟨n, e, es, rfl, _⟩ := h
    rfl
  · obtain ⟨n, e, es, rfl, pl, ok, q⟩ := h
    have hn := ok.n40
    obtain ⟨ts, e1, e2⟩ := pl.ex
    refine ⟨_, (pss_cons (ps_if (PW.pt (pw_or (pt_not (pt_val (qe_c c_is_integer hr (by decide) (by rfl) (pa_cons (pv 0) pa_nil)))) (pw_or1 (pt_not (pt_chain op_le op_le pe_int (pv 0) (pe_glob (v := .int 40) (by rfl) m_MOST ⟨_, rfl⟩))))))
        (pss_one ps_never)
        pss_nil)
      (pss_cons (ps_if (pt_not (pt_val (pe_callB call_isi (by rfl) m_isinstance (by decide +kernel) (pa_cons (pv 1) (pa_cons (pe_bltn (v := .ty "list") (u := .type "list") (by rfl) m_list (by decide +kernel) rfl) pa_nil)))))
        (pss_one ps_never)
        pss_nil)
      (pss_cons (ps_set (i := 2) scCheckEdges.nd rfl (Or.inl rfl) (pe_tup (pa_cons (pe_un un_neg pe_int) (pa_cons (pe_un un_neg pe_int) pa_nil))))
      (pss_one (ps_for PassesOwn.never rfl (pi_list (pv 1)) (pg_name (i := 3) scCheckEdges.nd rfl (Or.inl rfl))
        (pss_cons (ps_if (PW.pt (pw_or (pt_not (pt_val (pe_callB call_isi (by rfl) m_isinstance (by decide +kernel) (pa_cons (pv 3) (pa_cons (pe_bltn (v := .ty "tuple") (u := .type "tuple") (by rfl) m_tuple (by decide +kernel) rfl) pa_nil))))) (pw_or1 (pt_cmpR op_ne (pe_callB call_len_seq (by rfl) m_len PySem.boot_len (pa_cons (pv 3) pa_nil)) pe_int (nomark _)))))
          (pss_one ps_never)
          pss_nil)
        (pss_cons (ps_if (PW.pt (pw_or (pt_not (pt_val (qe_c c_is_index hr (by decide) (by rfl) (pa_cons (pe_ix ix_tup (pv 3) pe_int (fun _ _ => rfl)) (pa_cons (pv 0) pa_nil))))) (pw_or1 (pt_not (pt_val (qe_c c_is_index hr (by decide) (by rfl) (pa_cons (pe_ix ix_tup (pv 3) pe_int (fun _ _ => rfl)) (pa_cons (pv 0) pa_nil))))))))
          (pss_one ps_never)
          pss_nil)
        (pss_cons (ps_if (PW.pt (pw_or (pt_cmpR op_ge (pe_ix ix_tup (pv 3) pe_int (fun _ _ => rfl)) (pe_ix ix_tup (pv 3) pe_int (fun _ _ => rfl)) (nomark _)) (pw_or1 (pt_cmpR (op_leT hr.units0) (pv 3) (pv 2) (nomark _)))))
          (pss_one ps_never)
          pss_nil)
        (pss_one (ps_set (i := 2) scCheckEdges.nd rfl (Or.inl rfl) (pv 3))))))))))), ?_⟩
    refine ⟨_, rfl, _, rfl, true, rfl, _, rfl, _, _, rfl, rfl, true, bT (by omega), _, _, rfl, rfl, true, bT (by omega), ?_⟩
    refine ⟨_, rfl, _, _, _, _, true, rfl, .ty _, .base (.lst e1), kit_ty k_ll, true, rfl, ?_⟩
    refine ⟨_, rfl, _, rfl, (by show 2 ≤ sizeLine; decide), fun p hp => ?_⟩
    refine ⟨_, rfl, e, rfl, ⟨_, (same_new hp).seq (SqL.of e1)⟩, for_list (K := K) (a := e) (xs := ts.map V.ref) (fun i σ H' => Same H H' ∧ ∃ (u : Addr) (v3 : Option V) (a b : Int), σ = [some (vi n), some (.ref e), some (.ref u), v3] ∧ H' u = some (.tup [.int a, .int b]) ∧
        ∀ (f : Nat × Nat), es[i]? = some f → a < f.1 ∨ (a = f.1 ∧ b < f.2))
      ⟨same_new hp, p, _, -1, -1, rfl, upd_same, fun f _ => by omega⟩ (fun i σ H' _ h => h.1.seq (SqL.of e1)) ?_ ?_⟩
    · rintro i x σ H' hx ⟨sm, u, v3, a, b, rfl, hu, hlast⟩
      obtain ⟨t, f, rfl, hf, _, ht⟩ := e2.get hx
      have hlt := ok.lt f (List.mem_of_getElem? hf)
      have ht := sm _ _ ht
      have hl := hlast f hf
      refine ⟨_, rfl, _, _, _, _, true, rfl, .ty _, .base (.tup ht), kit_ty k_tt, true, rfl, ?_⟩
      refine ⟨_, rfl, t, _, rfl, .inr (SqT.of ht), rfl, false, rfl, ?_⟩
      refine ⟨_, rfl, t, _, _, _, rfl, rfl, SqT.of ht, at_of (j := 0) rfl rfl, _, rfl, _, _, rfl, (by omega), (by omega), true, rfl, ?_⟩
      refine ⟨_, rfl, t, _, _, _, rfl, rfl, SqT.of ht, at_of (j := 1) rfl rfl, _, rfl, _, _, rfl, (by omega), (by omega), true, rfl, ?_⟩
      refine ⟨_, rfl, t, _, _, _, rfl, rfl, SqT.of ht, at_of (j := 0) rfl rfl, _, rfl, t, _, _, _, rfl, rfl, SqT.of ht, at_of (j := 1) rfl rfl, _, _, rfl, rfl, false, bF (by omega), ?_⟩
      refine ⟨_, rfl, _, rfl, t, u, [(f.1 : Int), (f.2 : Int)], [a, b], rfl, rfl, SqT.of ht, SqT.of hu, false, congrArg V.bl (leT_false hl), ?_⟩
      refine ⟨_, rfl, sm, t, _, _, _, rfl, ht, fun g hg => ?_⟩
      have hi := (List.getElem?_eq_some_iff.mp hf)
      have hj := (List.getElem?_eq_some_iff.mp hg)
      have := List.pairwise_iff_getElem.mp ok.asc i (i + 1) hi.1 hj.1 (by omega)
      rw [hi.2, hj.2] at this
      unfold ltE at this
      omega
    · rintro σ H' ⟨sm, _⟩
      exact q H' sm

/-! ### the graph -/
def gf (n : Nat) (le ll : Addr) : List (Str × V) := [("nodes", vi n), ("edges", .ref le), ("links", .ref ll)]
structure GTx (K : PySem.W.Frag) (C : Addr) : Prop where
  cl : Cls K C
  n1 : NoAttr K C "nodes"
  n2 : NoAttr K C "edges"
  n3 : NoAttr K C "links"
structure GraphAt (C : Addr) (H : Hp) (g : Addr) (n : Nat) (es : List (Nat × Nat)) : Prop where
  ex : ∃ dx le ll, H g = some (.ins C dx (gf n le ll)) ∧ PL H le es ∧ RL H ll n (lks n es)
  ok : EOk n es
theorem GraphAt.same {C : Addr} {H H' : Hp} {g : Addr} {n : Nat} {es : List (Nat × Nat)} (h : GraphAt C H g n es) (s : Same H H') : GraphAt C H' g n es := by
  obtain ⟨dx, le, ll, h1, h2, h3⟩ := h.ex
  exact ⟨⟨dx, le, ll, s _ _ h1, h2.same s, h3.same s⟩, h.ok⟩
def spCheckNode (C : Addr) : Sp := fun vs H Q _ => ∃ (g : Addr) (n v : Nat) (es : List (Nat × Nat)), vs = [.ref g, vi v] ∧ GraphAt C H g n es ∧ v < n ∧ Q .non H
abbrev sCheckNode : Stmt := top 18
theorem scCheckNode : FnScope ["graph", "v"] ["graph", "v"] (defScope sCheckNode) := ⟨rfl, rfl, rfl, by decide +kernel, rfl, by decide +kernel, by decide +kernel⟩
theorem ok_check_node {C : Addr} (D : Dfn K mg "check_node" sCheckNode ["graph", "v"]) (T : GTx K C) (c_is_index : Cal P w K mg base 2 "is_index" spIsIndex) : Cal P w K mg base 3 "check_node" (spCheckNode C) := by
  refine D.cal scCheckNode (fun vs H Q E h => ?_) (fun f cdv A outer s H vs Q E hr h => ?_)
  · obtain ⟨g, n, v, es, rfl, _⟩ := h
    rfl
  · obtain ⟨g, n, v, es, rfl, G, hv, q⟩ := h
    obtain ⟨dx, le, ll, h1, _⟩ := G.ex
    refine ⟨_, (pss_one (ps_if (pt_not (pt_val (qe_c c_is_index hr (by decide) (by rfl) (pa_cons (pv 1) (pa_cons (pe_fld (pv 0) rfl) pa_nil)))))
        (pss_one ps_never)
        pss_nil)), ?_⟩
    exact ⟨_, rfl, _, rfl, g, C, dx, _, _, rfl, h1, T.cl, T.n1, rfl, _, _, rfl, by omega, by omega, true, rfl, q⟩
def spNeigh (C : Addr) : Sp := fun vs H Q _ => ∃ (g : Addr) (n v : Nat) (es : List (Nat × Nat)), vs = [.ref g, vi v] ∧ GraphAt C H g n es ∧ v < n ∧
  ∀ (l : Addr) (H' : Hp), Same H H' → H l = none → H' l = some (.lst (nl (lks n es v))) → Q (.ref l) H'
abbrev sNeigh : Stmt := inClass (top 16) 3
theorem scNeigh : FnScope ["self", "v"] ["self", "v"] (defScope sNeigh) := ⟨rfl, rfl, rfl, by decide +kernel, rfl, by decide +kernel, by decide +kernel⟩
theorem ok_neigh {C : Addr} (D : Mdf K C "neighbours" "Graph.neighbours" sNeigh ["self", "v"]) (T : GTx K C) (m_list : mg "list" = none) (c_check_node : Cal P w K mg base 3 "check_node" (spCheckNode C)) :
    Met P w K mg base 4 C "neighbours" (spNeigh C) := by
  refine D.met scNeigh (fun vs H Q E h => ?_) (fun f cdv A outer s H vs Q E hr h => ?_)
  · obtain ⟨g, n, v, es, rfl, _⟩ := h
    rfl
  · obtain ⟨g, n, v, es, rfl, G, hv, q⟩ := h
    obtain ⟨dx, le, ll, h1, _, rs, r1, r2⟩ := G.ex
    obtain ⟨r, a1, a2, a3⟩ := r2.get hv
    refine ⟨_, (pss_cons (ps_expr (qe_c c_check_node hr (by decide) (by rfl) (pa_cons (pv 0) (pa_cons (pv 1) pa_nil))))
      (pss_one (ps_ret (pe_callTy call_list_of (by rfl) m_list (by decide +kernel) (pa_cons (pe_ix ix_list (pe_fld (pv 0) rfl) (pv 1) (fun _ _ => rfl)) pa_nil))))), ?_⟩
    refine ⟨_, rfl, _, rfl, g, n, v, es, rfl, G, hv, ?_⟩
    refine ⟨_, rfl, g, C, dx, _, _, rfl, h1, T.cl, T.n3, rfl, _, rfl, ll, _, _, _, rfl, rfl, SqL.of r1, atI_nat a2, r, _, rfl, .inl (SqL.of a3), fun l hl => ?_⟩
    exact q l _ (same_new hl) hl upd_same
def spGInit (C : Addr) : Sp := fun vs H Q _ => ∃ (p dx : Addr) (n : Nat) (e : Addr) (es : List (Nat × Nat)), vs = [.ref p, vi n, .ref e] ∧ H p = some (.ins C dx []) ∧ PL H e es ∧ EOk n es ∧
  ∀ H', GraphAt C H' p n es → Keep [p] H H' → Q .non H'
abbrev sGInit : Stmt := inClass (top 16) 0
theorem scGInit : FnScope ["self", "nodes", "edges", "first", "second", "_", "row"] ["self", "nodes", "edges"] (defScope sGInit) := ⟨rfl, rfl, rfl, by decide +kernel, rfl, by decide +kernel, by decide +kernel⟩
theorem ok_ginit {C : Addr} (D : Kdf K mg "Graph" "Graph.__init__" C sGInit ["self", "nodes", "edges"]) (T : GTx K C) (m_list : mg "list" = none) (m_range : mg "range" = none) (m_sorted : mg "sorted" = none)
    (c_check_edges : Cal P w K mg base 3 "check_edges" spCheckEdges) : Mak P w K mg base 4 "Graph" C (spGInit C) := by
  refine D.mak scGInit (fun vs H Q E h => ?_) (fun f cdv A outer s H vs Q E hr h => ?_)
  · obtain ⟨p, dx, n, e, es, rfl, _⟩ := h
    rfl
  · obtain ⟨p, dx, n, e, es, rfl, hp, pl, ok, q⟩ := h
    have hn := ok.n40
    refine ⟨_, (pss_cons (ps_expr (qe_c c_check_edges hr (by decide) (by rfl) (pa_cons (pv 1) (pa_cons (pv 2) pa_nil))))
      (pss_cons (ps_fld (pv 0) (pv 1) rfl)
      (pss_cons (ps_fld (pv 0) (pe_callTy call_list_of (by rfl) m_list (by decide +kernel) (pa_cons (pv 2) pa_nil)) rfl)
      (pss_cons (ps_fld (pv 0) (pe_lc (own := [("_", 5)]) (g := (gName 5)) (tt := tYes) (by rfl) scGInit.nd (pi_range1 (by rfl) m_range (pa_cons (pv 1) pa_nil)) (blkOk_by (own := [("_", 5)]) (N := ["self", "nodes", "edges", "first", "second", "_", "row"]) (sc := defScope sGInit) (by decide +kernel)) (fun _ _ _ _ _ => (pg_name (i := 5) scGInit.nd rfl (Or.inl rfl))) (fun _ _ _ _ _ => pts_nil) (fun _ _ _ _ _ => (pe_lst pa_nil))) rfl)
      (pss_cons (ps_for PassesOwn.never rfl (pi_list (pv 2)) (pg_tup rfl (pgs_cons (pg_name (i := 3) scGInit.nd rfl (Or.inl rfl)) (pgs_cons (pg_name (i := 4) scGInit.nd rfl (Or.inl rfl)) pgs_nil)))
        (pss_cons (ps_expr (pe_bm PySem.F.plainAttrs_list PySem.F.slot_list_append PySem.F.type_list_append mt_append (pe_ix ix_list (pe_fld (pv 0) rfl) (pv 3) (fun _ _ => rfl)) (pa_cons (pv 4) pa_nil)))
        (pss_one (ps_expr (pe_bm PySem.F.plainAttrs_list PySem.F.slot_list_append PySem.F.type_list_append mt_append (pe_ix ix_list (pe_fld (pv 0) rfl) (pv 4) (fun _ _ => rfl)) (pa_cons (pv 3) pa_nil))))))
      (pss_one (ps_fld (pv 0) (pe_lc (own := [("row", 6)]) (g := (gName 6)) (tt := tYes) (by rfl) scGInit.nd (pi_list (pe_fld (pv 0) rfl)) (blkOk_by (own := [("row", 6)]) (N := ["self", "nodes", "edges", "first", "second", "_", "row"]) (sc := defScope sGInit) (by decide +kernel)) (fun _ _ _ _ _ => (pg_name (i := 6) scGInit.nd rfl (Or.inl rfl))) (fun _ _ _ _ _ => pts_nil) (fun _ _ _ _ _ => (pe_callB (sortIk K rfl) (by rfl) m_sorted (by decide +kernel) (pa_cons (pv 6) pa_nil)))) rfl))))))), ?_⟩
    refine ⟨_, rfl, _, rfl, n, e, es, rfl, pl, ok, fun H1 s1 => ?_⟩
    have hp1 := s1 _ _ hp
    -- self.nodes = nodes
    refine ⟨_, rfl, _, rfl, p, C, dx, [], rfl, hp1, T.cl, T.n1, (by show 0 < 1000; decide), ?_⟩
    -- self.edges = list(edges)
    obtain ⟨ts, e1, e2⟩ := (pl.same s1).ex
    have npe : e ≠ p := ne_of e1 hp1 (by intro z; cases z)
    have k2 : Keep [p] H1 (upd H1 p (.ins C dx (putF "nodes" (vi n) []))) := Keep.put (by simp)
    have e1' := k2 _ _ e1 (by simpa using npe)
    refine ⟨_, rfl, e, _, rfl, .inl (SqL.of e1'), fun l hl => ?_⟩
    have npl : l ≠ p := (ne_of_none (upd_same (H := H1)) hl).symm
    refine ⟨_, rfl, p, C, dx, _, rfl, (by rw [upd_ne npl.symm, upd_same]), T.cl, T.n2, (by show 1 < 1000; decide), ?_⟩
    -- self.links = [[] for _ in range(nodes)]
    refine ⟨_, rfl, _, rfl, by omega, by omega, fun D1 hD1 => ?_⟩
    generalize h4 : upd (upd (upd H1 p _) l _) p _ = H4 at *
    have p4 : H4 p = some (.ins C dx [("nodes", vi n), ("edges", .ref l)]) := by rw [← h4, upd_same]; rfl
    have l4 : H4 l = some (.lst (ts.map V.ref)) := by rw [← h4, upd_ne npl, upd_same]
    have k4 : Keep [p] H1 H4 := by rw [← h4]; exact ((Keep.put (by simp)).trans (same_keep (same_new hl))).trans (Keep.put (by simp))
    have t4 : Tups H4 ts es := e2.tk (TK.keep k4 fun b hb xs e => by rw [List.mem_singleton.mp hb, hp1] at e; cases e)
    clear h4
    refine lc_rng0 (n := n) (fun i H' => ESt H4 H' D1 i) (.start hD1) ?_ ?_
    · intro i H' hi S
      exact ⟨rfl, Nat.zero_le _, fun u hu => S.turn (by omega) hD1 hu⟩
    intro H5 S5
    obtain ⟨rs, A5⟩ := S5.done hD1
    have p5 := A5.sm _ _ p4
    have npD : p ≠ D1 := ne_of_none p4 hD1
    refine ⟨_, rfl, p, C, dx, _, rfl, p5, T.cl, T.n3, (by show 2 < 1000; decide), ?_⟩
    generalize h6 : upd H5 p _ = H6 at *
    have p6 : H6 p = some (.ins C dx (gf n l D1)) := by rw [← h6, upd_same]; rfl
    have k6 : Keep [p] H5 H6 := by rw [← h6]; exact Keep.put (by simp)
    -- what stood in H4, but for p
    have npr : ∀ r ∈ rs, r ≠ p := fun r hm q => by
      have := A5.nr r hm
      rw [q, p4] at this
      cases this
    clear h6
    have A6 : ∃ G0, Keep [p] H4 G0 ∧ G0 p = some (.ins C dx (gf n l D1)) ∧ ASt G0 H6 D1 rs n (lkOf []) := by
      refine ⟨upd H4 p (.ins C dx (gf n l D1)), Keep.put (by simp), upd_same, ?_, ?_, ?_, A5.nd, A5.Dr, ?_, A5.rw.len, ?_⟩
      · intro b o hb
        by_cases e : b = p
        · rw [e, upd_same] at hb
          rw [e, p6]; exact hb
        · rw [upd_ne e] at hb
          exact k6 _ _ (A5.sm _ _ hb) (by simpa using e)
      · rw [upd_ne npD.symm]; exact hD1
      · exact k6 _ _ A5.hD (by simpa using npD.symm)
      · intro r hm
        rw [upd_ne (npr r hm)]; exact A5.nr r hm
      · intro i r hi
        exact k6 _ _ (A5.rw.at_ i r hi) (by simpa using npr r (List.mem_of_getElem? hi))
    obtain ⟨G0, kG, pG, A6⟩ := A6
    have hll : l ≠ p := ne_of l4 p4 (by intro z; cases z)
    have lG : G0 l = some (.lst (ts.map V.ref)) := kG _ _ l4 (by simpa using hll)
    have tG : Tups G0 ts es := t4.tk (TK.keep kG fun b hb xs e => by rw [List.mem_singleton.mp hb, p4] at e; cases e)
    have eG : G0 e = some (.lst (ts.map V.ref)) := kG _ _ (k4 _ _ e1 (by simpa using npe)) (by simpa using npe)
    -- the edges into the rows
    refine ⟨_, rfl, e, rfl, ⟨_, A6.sm.seq (SqL.of eG)⟩, for_list (K := K) (a := e) (xs := ts.map V.ref) (fun i σ H' => ∃ v3 v4 v5 v6 : Option V, σ = [some (.ref p), some (vi n), some (.ref e), v3, v4, v5, v6] ∧ ASt G0 H' D1 rs n (lkOf (es.take i)))
      ⟨_, _, _, _, rfl, A6⟩ (fun i σ H' _ ⟨_, _, _, _, _, A⟩ => A.sm.seq (SqL.of eG)) ?_ ?_⟩
    · rintro i x σ H' hx ⟨v3, v4, v5, v6, rfl, A⟩
      obtain ⟨t, f, rfl, hf, _, ht⟩ := tG.get hx
      have hlt := ok.lt f (List.mem_of_getElem? hf)
      obtain ⟨r1, a1, a2, a3⟩ := A.rw.get (show f.1 < n by omega)
      have pH := A.sm _ _ pG
      refine ⟨t, _, rfl, SqT.of (A.sm _ _ ht), rfl, _, _, rfl, _, _, rfl, rfl, ?_⟩
      refine ⟨_, rfl, p, C, dx, _, _, rfl, pH, T.cl, T.n3, rfl, _, rfl, D1, _, _, _, rfl, rfl, SqL.of A.hD, atI_nat a2, .inl ⟨rfl, _, SqL.of a3⟩, _, rfl, r1, _, _, rfl, rfl, a3, ?_, ?_⟩
      · rw [nl_len]
        exact small_le (Nat.le_trans (lkOf_len _ _) (Nat.le_trans (by rw [List.length_take]; exact Nat.min_le_right ..) ok.len)) (by decide)
      have A' := A.app (v := f.2) a1
      obtain ⟨r2, b1, b2, b3⟩ := A'.rw.get (show f.2 < n by omega)
      refine ⟨_, rfl, p, C, dx, _, _, rfl, A'.sm _ _ pG, T.cl, T.n3, rfl, _, rfl, D1, _, _, _, rfl, rfl, SqL.of A'.hD, atI_nat b2, .inl ⟨rfl, _, SqL.of b3⟩, _, rfl, r2, _, _, rfl, rfl, b3, ?_, ?_⟩
      · rw [nl_len, List.length_append]
        have h1 := lkOf_len (es.take i) f.2
        rw [List.length_take] at h1
        have h2 := ok.len
        refine small_le (m := 1601) ?_ (by decide)
        split <;> (simp; omega)
      have A'' := A'.app (v := f.1) b1
      refine ⟨_, _, _, _, rfl, A''.lk_eq fun x => ?_⟩
      rw [lkOf_step hlt.1, List.take_add_one, hf]
      rfl
    · rintro σ H' ⟨v3, v4, v5, v6, rfl, A⟩
      have A : ASt G0 H' D1 rs n (lkOf es) := by
        rw [List.length_map, tG.len, List.take_length] at A
        exact A
      have pH := A.sm _ _ pG
      -- self.links = [sorted(row) for row in self.links]
      refine ⟨_, rfl, p, C, dx, _, _, rfl, pH, T.cl, T.n3, rfl, D1, rfl, ⟨_, SqL.of A.hD⟩, fun D2 hD2 => lc_list (K := K) (a := D1) (xs := rs.map V.ref) (fun i H2 => FSt H' H2 D2 i (lks n es)) (.start hD2) (fun i H2 _ F => F.sm.seq (SqL.of A.hD)) ?_ ?_⟩
      · rintro i x H2 hx F
        rw [List.getElem?_map] at hx
        cases hi : rs[i]? with
        | none => rw [hi] at hx; cases hx
        | some r =>
          rw [hi] at hx
          cases hx
          have hr := F.sm _ _ (A.rw.at_ i r hi)
          have hin : i < n := by
            rw [← A.rw.len]; exact (List.getElem?_eq_some_iff.mp hi).1
          refine ⟨rfl, _, rfl, r, (lkOf es i).map (fun x : Nat => (x : Int)), rfl, by rw [← nl_ints]; exact SqL.of hr, fun ns' p hp hs hn => ?_⟩
          rw [sorted_row ok hp hs]
          exact F.turn (by omega) hD2 hn
      · intro H2 F
        rw [List.length_map, A.rw.len] at F
        have p2 := F.sm _ _ pH
        refine ⟨_, rfl, p, C, dx, _, rfl, p2, T.cl, T.n3, (by show 3 < 1000; decide), ?_⟩
        have npD2 : D2 ≠ p := (ne_of_none pH hD2).symm
        have kL : Keep [p] H2 (upd H2 p (.ins C dx (putF "links" (.ref D2) (gf n l D1)))) := Keep.put (by simp)
        obtain ⟨ss, f1, f2⟩ := F.done.ex
        refine q _ ⟨⟨dx, l, D2, upd_same, ⟨ts, ?_, ?_⟩, ⟨ss, ?_, f2.len, fun i r hi => ?_⟩⟩, ok⟩ ?_
        · exact kL _ _ (F.sm _ _ (A.sm _ _ lG)) (by simpa using hll)
        · refine (tG.tk (TK.same (A.sm.trans F.sm))).tk (TK.keep kL fun b hb xs e => ?_)
          rw [List.mem_singleton.mp hb, p2] at e
          cases e
        · exact kL _ _ f1 (by simpa using npD2)
        · have hr := f2.at_ i r hi
          exact kL _ _ hr (by simpa using ne_of hr p2 (by intro z; cases z))
        · intro b o hb hn
          exact kL _ _ (F.sm _ _ (A.sm _ _ (kG _ _ (k4 _ _ (s1 _ _ hb) hn) hn))) hn
end
end Cherry
namespace Cherry
open PySem PySem.Spec PyProof.Rows L2
section
variable {P : Program} {w : World} {K : PySem.W.Frag} {mg : Str → Option Value} {base : Heap}
theorem made_same {H H' : Hp} {x dx : Addr} {o u : HO} (hx : H x = none) (hd : H dx = none) (k : Keep [x] (upd (upd H dx o) x u) H') : Same H H' := fun b v hb => by
  have h1 : b ≠ x := ne_of_none hb hx
  have h2 : b ≠ dx := ne_of_none hb hd
  exact k b v (by rw [upd_ne h1, upd_ne h2]; exact hb) (by simpa using h1)
theorem PL.made {H : Hp} {l x dx : Addr} {es : List (Nat × Nat)} {o u : HO} (h : PL H l es) (hx : H x = none) (hd : H dx = none) : PL (upd (upd H dx o) x u) l es := by
  refine h.same fun b v hb => ?_
  rw [upd_ne (ne_of_none hb hx), upd_ne (ne_of_none hb hd)]; exact hb

/-- the edges of the complement so far: those below (i, j) -/
structure CS (H0 H : Hp) (l : Addr) (n : Nat) (es : List (Nat × Nat)) (i j : Nat) : Prop where
  sm : Same H0 H
  nl : H0 l = none
  ex : ∃ fs, PL H l fs ∧ EOk n fs ∧ ∀ a b, (a, b) ∈ fs ↔ a < b ∧ b < n ∧ (a, b) ∉ es ∧ (a < i ∨ (a = i ∧ b < j))
def spCompl (C : Addr) : Sp := fun vs H Q _ => ∃ (g : Addr) (n : Nat) (es : List (Nat × Nat)), vs = [.ref g] ∧ GraphAt C H g n es ∧
  ∀ (g' : Addr) (H' : Hp) (es' : List (Nat × Nat)), Same H H' → H g' = none → GraphAt C H' g' n es' → (∀ a b, (a, b) ∈ es' ↔ a < b ∧ b < n ∧ (a, b) ∉ es) → Q (.ref g') H'
abbrev sCompl : Stmt := inClass (top 16) 8
theorem scCompl : FnScope ["self", "edges", "first", "second"] ["self"] (defScope sCompl) := ⟨rfl, rfl, rfl, by decide +kernel, rfl, by decide +kernel, by decide +kernel⟩
theorem ok_compl {C : Addr} (D : Mdf K C "complement" "Graph.complement" sCompl ["self"]) (T : GTx K C) (m_range : mg "range" = none) (c_Graph : Mak P w K mg base 4 "Graph" C (spGInit C)) :
    Met P w K mg base 6 C "complement" (spCompl C) := by
  refine D.met scCompl (fun vs H Q E h => ?_) (fun f cdv A outer s H vs Q E hr h => ?_)
  · obtain ⟨g, n, es, rfl, _⟩ := h
    rfl
  · obtain ⟨g, n, es, rfl, G, q⟩ := h
    have hn := G.ok.n40
    obtain ⟨dx, le, ll, h1, _, rs, r1, r2⟩ := G.ex
    refine ⟨_, (pss_cons (ps_set (i := 1) scCompl.nd rfl (Or.inl rfl) (pe_lst pa_nil))
      (pss_cons (ps_for PassesOwn.never rfl (pi_range1 (by rfl) m_range (pa_cons (pe_fld (pv 0) rfl) pa_nil)) (pg_name (i := 2) scCompl.nd rfl (Or.inl rfl))
        (pss_one (ps_for PassesOwn.never rfl (pi_range2 (by rfl) m_range (pa_cons (pe_op op_add (pv 2) pe_int) (pa_cons (pe_fld (pv 0) rfl) pa_nil))) (pg_name (i := 3) scCompl.nd rfl (Or.inl rfl))
          (pss_one (ps_if (pt_cmpR op_notIn_seq (pv 3) (pe_ix ix_list (pe_fld (pv 0) rfl) (pv 2) (fun _ _ => rfl)) rfl)
            (pss_one (ps_expr (pe_bm PySem.F.plainAttrs_list PySem.F.slot_list_append PySem.F.type_list_append mt_append (pv 1) (pa_cons (pe_tup (pa_cons (pv 2) (pa_cons (pv 3) pa_nil))) pa_nil))))
            pss_nil)))))
      (pss_one (ps_ret (qe_mk c_Graph hr (by decide) (by rfl) (pa_cons (pe_fld (pv 0) rfl) (pa_cons (pv 1) pa_nil))))))), ?_⟩
    refine ⟨Nat.zero_le _, fun l hl => ?_⟩
    have s0 : Same H (upd H l (.lst [])) := same_new hl
    refine ⟨_, rfl, g, C, dx, _, _, rfl, s0 _ _ h1, T.cl, T.n1, rfl, _, rfl, by omega, by omega, for_rng0 (n := n) (fun i σ H' => ∃ v2 v3 : Option V, σ = [some (.ref g), some (.ref l), v2, v3] ∧ CS H H' l n es i 0)
      ⟨_, _, rfl, s0, hl, [], ⟨[], upd_same, .nil⟩, ⟨by simp, .nil, hn⟩, by simp⟩ ?_ ?_⟩
    · rintro i σ H1 hi ⟨v2, v3, rfl, S⟩
      refine ⟨_, rfl, _, _, rfl, rfl, _, rfl, g, C, dx, _, _, rfl, S.sm _ _ h1, T.cl, T.n1, rfl, (i : Int) + 1, (n : Int), rfl, ⟨by omega, by omega, by omega, by omega⟩,
        for_rng (lo := i + 1) (n := ((n : Int) - ((i : Int) + 1)).toNat) (fun k σ H' => ∃ v3 : Option V, σ = [some (.ref g), some (.ref l), some (vi i), v3] ∧ CS H H' l n es i (i + 1 + k)) ⟨_, rfl, S.sm, S.nl, ?_⟩ ?_ ?_⟩
      · obtain ⟨fs, f1, f2, f3⟩ := S.ex
        refine ⟨fs, f1, f2, fun a b => (f3 a b).trans ?_⟩
        constructor
        · rintro ⟨q1, q2, q3, q4⟩; exact ⟨q1, q2, q3, by omega⟩
        · rintro ⟨q1, q2, q3, q4⟩; exact ⟨q1, q2, q3, by omega⟩
      · rintro k σ H2 hk ⟨v3, rfl, S2⟩
        have hj : i + 1 + k < n := by omega
        generalize hjj : i + 1 + k = j at *
        have hij : i < j := by omega
        obtain ⟨fs, f1, f2, f3⟩ := S2.ex
        obtain ⟨r, a1, a2, a3⟩ := r2.get hi
        have hmem : j ∈ lks n es i ↔ (i, j) ∈ es := by
          rw [mem_lks]
          constructor
          · rintro ⟨_, h | h⟩
            · exact h
            · have := G.ok.lt _ h
              simp only at this
              omega
          · exact fun h => ⟨hj, .inl h⟩
        have hdec : inV (vi j) (nl (lks n es i)) = decide ((i, j) ∈ es) := by rw [in_nl]; exact decide_eq_decide.mpr hmem
        refine ⟨_, rfl, _, rfl, g, C, dx, _, _, rfl, S2.sm _ _ h1, T.cl, T.n3, rfl, _, rfl, ll, _, _, _, rfl, rfl, SqL.of (S2.sm _ _ r1), atI_nat a2, r, _, rfl, .inl (SqL.of (S2.sm _ _ a3)), rfl, flat_nl _, ?_⟩
        by_cases hm : (i, j) ∈ es
        · refine ⟨false, ?_, _, rfl, S2.sm, S2.nl, fs, f1, f2, fun a b => (f3 a b).trans ?_⟩
          · show V.bl (!inV (vi j) (nl (lks n es i))) = V.bl false
            rw [hdec, decide_eq_true hm]; rfl
          · constructor
            · rintro ⟨q1, q2, q3, q4⟩; exact ⟨q1, q2, q3, by omega⟩
            · rintro ⟨q1, q2, q3, q4⟩
              refine ⟨q1, q2, q3, ?_⟩
              have : ¬ (a = i ∧ b = j) := fun e => q3 (by rw [e.1, e.2]; exact hm)
              omega
        · refine ⟨true, ?_, ?_⟩
          · show V.bl (!inV (vi j) (nl (lks n es i))) = V.bl true
            rw [hdec, decide_eq_false hm]; rfl
          obtain ⟨ts, e1, e2⟩ := f1.ex
          refine ⟨_, rfl, .inl ⟨rfl, _, SqL.of e1⟩, _, rfl, _, rfl, (by show 2 ≤ sizeLine; decide), fun t ht => ?_⟩
          have s2 : Same H2 (upd H2 t (.tup [vi i, vi j])) := same_new ht
          refine (f1.same s2).add (e := (i, j)) upd_same (by have := f2.len; omega) fun pl => ⟨_, rfl, ?_, S2.nl, _, pl, ⟨?_, ?_, hn⟩, ?_⟩
          · exact Keep.back (S2.sm.trans s2) (Keep.put (S := [l]) (by simp)) (by simpa using hl)
          · intro e he
            rcases List.mem_append.mp he with he | he
            · exact f2.lt e he
            · rw [List.mem_singleton.mp he]; exact ⟨hij, hj⟩
          · refine List.pairwise_append.mpr ⟨f2.asc, by simp, fun a ha b hb => ?_⟩
            rw [List.mem_singleton.mp hb]
            have := (f3 a.1 a.2).mp ha
            unfold ltE
            show a.1 < i ∨ (a.1 = i ∧ a.2 < j)
            omega
          · intro a b
            rw [List.mem_append, f3 a b, List.mem_singleton]
            constructor
            · rintro (⟨q1, q2, q3, q4⟩ | e)
              · exact ⟨q1, q2, q3, by omega⟩
              · cases e; exact ⟨hij, hj, hm, by omega⟩
            · rintro ⟨q1, q2, q3, q4⟩
              by_cases e : a = i ∧ b = j
              · exact .inr (by rw [e.1, e.2])
              · exact .inl ⟨q1, q2, q3, by omega⟩
      · rintro σ H2 ⟨v3, rfl, S2⟩
        refine ⟨_, _, rfl, S2.sm, S2.nl, ?_⟩
        obtain ⟨fs, f1, f2, f3⟩ := S2.ex
        refine ⟨fs, f1, f2, fun a b => (f3 a b).trans ?_⟩
        constructor
        · rintro ⟨q1, q2, q3, q4⟩; exact ⟨q1, q2, q3, by omega⟩
        · rintro ⟨q1, q2, q3, q4⟩; exact ⟨q1, q2, q3, by omega⟩
    · rintro σ H1 ⟨v2, v3, rfl, S⟩
      obtain ⟨fs, f1, f2, f3⟩ := S.ex
      refine ⟨_, rfl, g, C, dx, _, _, rfl, S.sm _ _ h1, T.cl, T.n1, rfl, _, rfl, fun x ddx nx ndx nex => ?_⟩
      refine ⟨x, ddx, n, l, fs, rfl, upd_same, f1.made nx ndx, f2, fun H' G' k' => ⟨rfl, ?_⟩⟩
      refine q x H' fs (S.sm.trans (made_same nx ndx k')) (S.sm.free nx) G' fun a b => (f3 a b).trans ?_
      constructor
      · rintro ⟨q1, q2, q3, q4⟩; exact ⟨q1, q2, q3⟩
      · rintro ⟨q1, q2, q3⟩; exact ⟨q1, q2, q3, by omega⟩
end
end Cherry
namespace Cherry
open PySem PySem.Spec PyProof.Rows L2
section
variable {P : Program} {w : World} {K : PySem.W.Frag} {mg : Str → Option Value} {base : Heap}
theorem keyE_inj {e f : Nat × Nat} (h : keyE e = keyE f) : e = f := by
  unfold keyE at h
  injection h with h1 h2
  injection h2 with h2 _
  injection h1 with h1
  injection h2 with h2
  exact Prod.ext (by omega) (by omega)
theorem keys_put {κ : Type} [DecidableEq κ] (kvs : List (κ × V)) (k : κ) (v : V) : (putK kvs k v).map (·.1) = if k ∈ kvs.map (·.1) then kvs.map (·.1) else kvs.map (·.1) ++ [k] := by
  unfold putK
  by_cases h : (kvs.any fun kv => decide (kv.1 = k)) = true
  · rw [if_pos h, if_pos]
    · rw [List.map_map]
      apply List.map_congr_left
      intro a _
      show (if a.1 = k then (a.1, v) else a).1 = a.1
      split <;> rfl
    · obtain ⟨x, hx, e⟩ := List.any_eq_true.mp h
      exact List.mem_map.mpr ⟨x, hx, by simpa using e⟩
  · rw [if_neg h, if_neg]
    · rw [List.map_append]; rfl
    · intro hm
      obtain ⟨x, hx, e⟩ := List.mem_map.mp hm
      exact h (List.any_eq_true.mpr ⟨x, hx, by simpa using e⟩)
/-- the pairs found so far, as keys -/
structure KSt (H0 H : Hp) (d : Addr) (n : Nat) (ps : List (Nat × Nat)) : Prop where
  sm : Same H0 H
  nd : H0 d = none
  ex : ∃ kvs ks, H d = some (.dT kvs) ∧ kvs.map (·.1) = ks.map keyE ∧ PrOk n ks ∧ ks.Nodup ∧ kvs.length ≤ ps.length ∧ ∀ a b, (a, b) ∈ ks ↔ a < b ∧ ((a, b) ∈ ps ∨ (b, a) ∈ ps)
def spMakeG (C : Addr) : Sp := fun vs H Q _ => ∃ (n : Nat) (l : Addr) (ps : List (Nat × Nat)), vs = [vi n, .ref l] ∧ n ≤ 40 ∧ PL H l ps ∧ ps.length ≤ 2000 ∧ (∀ e ∈ ps, e.1 < n ∧ e.2 < n ∧ e.1 ≠ e.2) ∧
  ∀ (g : Addr) (H' : Hp) (es : List (Nat × Nat)), Same H H' → H g = none → GraphAt C H' g n es → (∀ a b, (a, b) ∈ es ↔ a < b ∧ ((a, b) ∈ ps ∨ (b, a) ∈ ps)) → Q (.ref g) H'
abbrev sMakeG : Stmt := top 20
theorem scMakeG : FnScope ["nodes", "pairs", "found", "pair"] ["nodes", "pairs"] (defScope sMakeG) := ⟨rfl, rfl, rfl, by decide +kernel, rfl, by decide +kernel, by decide +kernel⟩
theorem ok_makeg {C : Addr} (D : Dfn K mg "make_graph" sMakeG ["nodes", "pairs"]) (m_isinstance : mg "isinstance" = none) (m_list : mg "list" = none) (m_tuple : mg "tuple" = none) (m_len : mg "len" = none) (m_min : mg "min" = none) (m_max : mg "max" = none)
    (m_sorted : mg "sorted" = none) (c_is_index : Cal P w K mg base 2 "is_index" spIsIndex) (c_check_edges : Cal P w K mg base 3 "check_edges" spCheckEdges) (c_Graph : Mak P w K mg base 4 "Graph" C (spGInit C)) :
    Cal P w K mg base 6 "make_graph" (spMakeG C) := by
  refine D.cal scMakeG (fun vs H Q E h => ?_) (fun f cdv A outer s H vs Q E hr h => ?_)
  · obtain ⟨n, l, ps, rfl, _⟩ := h
    rfl
  · obtain ⟨n, l, ps, rfl, hn, pl, hps, hok, q⟩ := h
    refine ⟨_, (pss_cons (ps_expr (qe_c c_check_edges hr (by decide) (by rfl) (pa_cons (pv 0) (pa_cons (pe_lst pa_nil) pa_nil))))
      (pss_cons (ps_if (pt_not (pt_val (pe_callB call_isi (by rfl) m_isinstance (by decide +kernel) (pa_cons (pv 1) (pa_cons (pe_bltn (v := .ty "list") (u := .type "list") (by rfl) m_list (by decide +kernel) rfl) pa_nil)))))
        (pss_one ps_never)
        pss_nil)
      (pss_cons (ps_set (i := 2) scMakeG.nd rfl (Or.inl rfl) pe_dnewT)
      (pss_cons (ps_for PassesOwn.never rfl (pi_list (pv 1)) (pg_name (i := 3) scMakeG.nd rfl (Or.inl rfl))
        (pss_cons (ps_if (PW.pt (pw_or (pt_not (pt_val (pe_callB call_isi (by rfl) m_isinstance (by decide +kernel) (pa_cons (pv 3) (pa_cons (pe_bltn (v := .ty "tuple") (u := .type "tuple") (by rfl) m_tuple (by decide +kernel) rfl) pa_nil))))) (pw_or1 (pt_cmpR op_ne (pe_callB call_len_seq (by rfl) m_len PySem.boot_len (pa_cons (pv 3) pa_nil)) pe_int (nomark _)))))
          (pss_one ps_never)
          pss_nil)
        (pss_cons (ps_if (PW.pt (pw_or (pt_not (pt_val (qe_c c_is_index hr (by decide) (by rfl) (pa_cons (pe_ix ix_tup (pv 3) pe_int (fun _ _ => rfl)) (pa_cons (pv 0) pa_nil))))) (pw_or (pt_not (pt_val (qe_c c_is_index hr (by decide) (by rfl) (pa_cons (pe_ix ix_tup (pv 3) pe_int (fun _ _ => rfl)) (pa_cons (pv 0) pa_nil))))) (pw_or1 (pt_cmpR op_eq (pe_ix ix_tup (pv 3) pe_int (fun _ _ => rfl)) (pe_ix ix_tup (pv 3) pe_int (fun _ _ => rfl)) (nomark _))))))
          (pss_one ps_never)
          pss_nil)
        (pss_one (ps_dput (hu_of hr) (pv 2) (pe_tup (pa_cons (pe_callB (cr_minT rfl) (by rfl) m_min (by decide +kernel) (pa_cons (pv 3) pa_nil)) (pa_cons (pe_callB (cr_maxT rfl) (by rfl) m_max (by decide +kernel) (pa_cons (pv 3) pa_nil)) pa_nil))) pe_bl rfl)))))
      (pss_one (ps_ret (qe_mk c_Graph hr (by decide) (by rfl) (pa_cons (pv 0) (pa_cons (pe_callB (cr_sortedDT rfl) (by rfl) m_sorted (by decide +kernel) (pa_cons (pv 2) pa_nil)) pa_nil))))))))), ?_⟩
    -- check_edges(nodes, [])
    refine ⟨_, rfl, Nat.zero_le _, fun e0 he0 => ?_⟩
    refine ⟨n, e0, [], rfl, ⟨[], upd_same, .nil⟩, ⟨by simp, .nil, hn⟩, fun H1 s1 => ?_⟩
    have sm1 : Same H H1 := (same_new he0).trans s1
    obtain ⟨ts, p1, p2⟩ := (pl.same sm1).ex
    refine ⟨_, rfl, _, _, _, _, true, rfl, .ty _, .base (.lst p1), kit_ty k_ll, true, rfl, ?_⟩
    -- found = {}
    intro d hd
    refine ⟨_, rfl, l, rfl, ⟨_, (same_new hd).seq (SqL.of p1)⟩, for_list (K := K) (a := l) (xs := ts.map V.ref) (fun i σ H' => ∃ v3 : Option V, σ = [some (vi n), some (.ref l), some (.ref d), v3] ∧ KSt H1 H' d n (ps.take i))
      ⟨_, rfl, same_new hd, hd, [], [], upd_same, rfl, .nil, List.nodup_nil, Nat.le_refl _, by simp⟩ (fun i σ H' _ ⟨_, _, S⟩ => S.sm.seq (SqL.of p1)) ?_ ?_⟩
    · rintro i x σ H' hx ⟨v3, rfl, S⟩
      obtain ⟨t, e, rfl, he, _, ht⟩ := p2.get hx
      obtain ⟨h1, h2, hne⟩ := hok e (List.mem_of_getElem? he)
      have ht := S.sm _ _ ht
      refine ⟨_, rfl, _, _, _, _, true, rfl, .ty _, .base (.tup ht), kit_ty k_tt, true, rfl, ?_⟩
      refine ⟨_, rfl, t, _, rfl, .inr (SqT.of ht), rfl, false, rfl, ?_⟩
      refine ⟨_, rfl, t, _, _, _, rfl, rfl, SqT.of ht, at_of (j := 0) rfl rfl, _, rfl, _, _, rfl, (by omega), (by omega), true, rfl, ?_⟩
      refine ⟨_, rfl, t, _, _, _, rfl, rfl, SqT.of ht, at_of (j := 1) rfl rfl, _, rfl, _, _, rfl, (by omega), (by omega), true, rfl, ?_⟩
      refine ⟨_, rfl, t, _, _, _, rfl, rfl, SqT.of ht, at_of (j := 0) rfl rfl, _, rfl, t, _, _, _, rfl, rfl, SqT.of ht, at_of (j := 1) rfl rfl, rfl, false, bF (fun h => hne (vi_inj.mp h)), ?_⟩
      -- found[min, max] = True
      refine ⟨_, rfl, _, rfl, t, _, _, rfl, SqT.of ht, _, rfl, t, _, _, rfl, SqT.of ht, (by show 2 ≤ sizeLine; decide), fun u hu => ?_⟩
      obtain ⟨kvs, ks, k1, k2, k3, k4, k5, k6⟩ := S.ex
      have s2 : Same H' (upd H' u (.tup [.int (if (e.2 : Int) < (e.1 : Int) then (e.2 : Int) else (e.1 : Int)), .int (if (e.2 : Int) > (e.1 : Int) then (e.2 : Int) else (e.1 : Int))])) := same_new hu
      have hmi : (if (e.2 : Int) < (e.1 : Int) then (e.2 : Int) else (e.1 : Int)) = ((min e.1 e.2 : Nat) : Int) := by split <;> omega
      have hma : (if (e.2 : Int) > (e.1 : Int) then (e.2 : Int) else (e.1 : Int)) = ((max e.1 e.2 : Nat) : Int) := by split <;> omega
      have hi2 : i < 2000 := by
        have := (List.getElem?_eq_some_iff.mp he).1
        omega
      have hl2 : kvs.length ≤ 2000 := by
        rw [List.length_take] at k5
        omega
      refine ⟨d, _, rfl, DPut.t (kvs := kvs) (k := keyE (min e.1 e.2, max e.1 e.2)) (s2 _ _ k1) (by rw [upd_same, hmi, hma]; rfl) (small_le hl2 (by decide)), _, rfl, ?_, S.nd, ?_⟩
      · exact Keep.back (S.sm.trans s2) (Keep.put (S := [d]) (by simp)) (by simpa using S.nd)
      · have htake : ps.take (i + 1) = ps.take i ++ [e] := by rw [List.take_add_one, he]; rfl
        have hkey : ∀ x : Nat × Nat, keyE x ∈ ks.map keyE ↔ x ∈ ks := fun x => by
          rw [List.mem_map]
          constructor
          · rintro ⟨y, hy, e⟩; rw [← keyE_inj e]; exact hy
          · exact fun h => ⟨x, h, rfl⟩
        have hmem : ∀ a b, (a < b ∧ ((a, b) ∈ ps.take (i + 1) ∨ (b, a) ∈ ps.take (i + 1))) ↔ (a, b) ∈ ks ∨ (a, b) = (min e.1 e.2, max e.1 e.2) := by
          intro a b
          rw [k6 a b, htake, List.mem_append, List.mem_append, List.mem_singleton, List.mem_singleton]
          have e1 : (a, b) = e ↔ a = e.1 ∧ b = e.2 := ⟨fun h => by rw [← h]; exact ⟨rfl, rfl⟩, fun h => Prod.ext h.1 h.2⟩
          have e2 : (b, a) = e ↔ b = e.1 ∧ a = e.2 := ⟨fun h => by rw [← h]; exact ⟨rfl, rfl⟩, fun h => Prod.ext h.1 h.2⟩
          have e3 : (a, b) = (min e.1 e.2, max e.1 e.2) ↔ a = min e.1 e.2 ∧ b = max e.1 e.2 := ⟨fun h => ⟨congrArg Prod.fst h, congrArg Prod.snd h⟩, fun h => Prod.ext h.1 h.2⟩
          rw [e1, e2, e3]
          constructor
          · rintro ⟨q1, (q2 | q2) | (q2 | q2)⟩
            · exact .inl ⟨q1, .inl q2⟩
            · exact .inr (by omega)
            · exact .inl ⟨q1, .inr q2⟩
            · exact .inr (by omega)
          · rintro (⟨q1, q2 | q2⟩ | q2)
            · exact ⟨q1, .inl (.inl q2)⟩
            · exact ⟨q1, .inr (.inl q2)⟩
            · refine ⟨by omega, ?_⟩
              by_cases hlt : e.1 < e.2
              · exact .inl (.inr (by omega))
              · exact .inr (.inr (by omega))
        by_cases hin : (min e.1 e.2, max e.1 e.2) ∈ ks
        · refine ⟨_, ks, upd_same, ?_, k3, k4, ?_, fun a b => ?_⟩
          · rw [keys_put, k2, if_pos ((hkey _).mpr hin)]
          · have := congrArg List.length (keys_put kvs (keyE (min e.1 e.2, max e.1 e.2)) (.bl true))
            rw [k2, if_pos ((hkey _).mpr hin), ← k2, List.length_map, List.length_map] at this
            rw [this, htake, List.length_append]; omega
          · rw [hmem a b]
            exact ⟨.inl, fun h => h.elim id fun h => by rw [h]; exact hin⟩
        · refine ⟨_, ks ++ [(min e.1 e.2, max e.1 e.2)], upd_same, ?_, k3.snoc ⟨by simp only; omega, by simp only; omega⟩, ?_, ?_, fun a b => ?_⟩
          · rw [keys_put, k2, if_neg (fun h => hin ((hkey _).mp h)), List.map_append]; rfl
          · refine List.nodup_append.mpr ⟨k4, by simp, fun a ha b hb e => ?_⟩
            rw [List.mem_singleton.mp hb] at e
            exact hin (e ▸ ha)
          · have := length_putK kvs (keyE (min e.1 e.2, max e.1 e.2)) (.bl true)
            rw [htake, List.length_append, List.length_singleton]; omega
          · rw [hmem a b, List.mem_append, List.mem_singleton]
    · rintro σ H2 ⟨v3, rfl, S⟩
      have S : KSt H1 H2 d n ps := by
        rw [List.length_map, p2.len, List.take_length] at S
        exact S
      obtain ⟨kvs, ks, k1, k2, k3, k4, k5, k6⟩ := S.ex
      refine ⟨_, rfl, _, rfl, d, kvs, ks, rfl, k1, k2, fun us es p hT hperm hs hp => ?_⟩
      intro x dx nx ndx nex
      have pl2 : PL (upd H2 p (.lst (us.map V.ref))) p es := ⟨us, upd_same, hT.tk (TK.same (same_new hp))⟩
      have ok : EOk n es := by
        refine ⟨fun e he => k3 e (hperm.mem_iff.mp he), ?_, hn⟩
        refine (hs.and (hperm.nodup_iff.mpr k4)).imp fun h => ?_
        obtain ⟨h1, h2⟩ := h
        unfold ltE at *
        rename_i a b
        have : ¬ (a.1 = b.1 ∧ a.2 = b.2) := fun q => h2 (Prod.ext q.1 q.2)
        omega
      refine ⟨x, dx, n, p, es, rfl, upd_same, pl2.made nx ndx, ok, fun H' G' k' => ⟨rfl, ?_⟩⟩
      have s3 : Same H2 H' := (same_new hp).trans (made_same nx ndx k')
      refine q x H' es ((sm1.trans S.sm).trans s3) ((sm1.trans S.sm).free ((same_new hp).free nx)) G' fun a b => ?_
      rw [hperm.mem_iff, k6]
end
end Cherry
namespace Cherry
open PySem PySem.Spec PyProof.Rows L2
section
variable {P : Program} {w : World} {K : PySem.W.Frag} {mg : Str → Option Value} {base : Heap}
theorem EOk.ext {n : Nat} {es fs : List (Nat × Nat)} (h : EOk n es) (h' : EOk n fs) (m : ∀ a b, (a, b) ∈ es ↔ (a, b) ∈ fs) : es = fs :=
  asc_ext (lt := ltE) ltE_irr ltE_asym h.asc h'.asc fun x => m x.1 x.2
theorem cut1 (xs : List V) : cutV xs none (some 1) = xs.take 1 := by
  unfold cutV
  have e1 : HT.sIx xs.length 0 none = 0 := by rfl
  rw [e1, List.drop_zero, Nat.sub_zero]
  cases xs with
  | nil => rfl
  | cons a r =>
    have e2 : HT.sIx (a :: r).length (a :: r).length (some 1) = 1 := by
      simp [HT.sIx]
      try omega
    rw [e2]
def spDoor (C : Addr) : Sp := fun vs H Q _ => ∃ (d l : Addr) (n : Nat) (e : Addr) (es : List (Nat × Nat)), vs = [.ref d, vi n, .ref e] ∧ DrawsAt H d l ∧ PL H e es ∧ EOk n es ∧ e ≠ d ∧
  ∀ (g : Addr) (H' : Hp), Keep [d] H H' → DrawsAt H' d l → H g = none → GraphAt C H' g n es → Q (.ref g) H'
abbrev sDoor : Stmt := top 39
theorem scDoor : FnScope ["_law_draws", "_law_nodes", "_law_edges_here", "_law_pick", "_law_u", "_law_v"] ["_law_draws", "_law_nodes", "_law_edges_here"] (defScope sDoor) := ⟨rfl, rfl, rfl, by decide +kernel, rfl, by decide +kernel, by decide +kernel⟩
theorem ok_door {C : Addr} (D : Dfn K mg "_law_door" sDoor ["_law_draws", "_law_nodes", "_law_edges_here"]) (m_list : mg "list" = none) (c__law_draw : Cal P w K mg base 2 "_law_draw" spDraw)
    (c_Graph : Mak P w K mg base 4 "Graph" C (spGInit C)) (c_make_graph : Cal P w K mg base 6 "make_graph" (spMakeG C)) (c_complement : Met P w K mg base 6 C "complement" (spCompl C)) :
    Cal P w K mg base 7 "_law_door" (spDoor C) := by
  refine D.cal scDoor (fun vs H Q E h => ?_) (fun f cdv A outer s H vs Q E hr h => ?_)
  · obtain ⟨d, l, n, e, es, rfl, _⟩ := h
    rfl
  · obtain ⟨d, l, n, e, es, rfl, D0, pl, ok, hed, q⟩ := h
    have hn := ok.n40
    refine ⟨_, (pss_cons (ps_set (i := 3) scDoor.nd rfl (Or.inl rfl) (pe_op op_mod (qe_c c__law_draw hr (by decide) (by rfl) (pa_cons (pv 0) pa_nil)) pe_int))
      (pss_cons (ps_if (pt_cmpR op_eq (pv 3) pe_int (nomark _))
        (pss_one (ps_ret (qe_mk c_Graph hr (by decide) (by rfl) (pa_cons (pv 1) (pa_cons (pe_callTy call_list_of (by rfl) m_list (by decide +kernel) (pa_cons (pv 2) pa_nil)) pa_nil)))))
        pss_nil)
      (pss_cons (ps_if (pt_cmpR op_eq (pv 3) pe_int (nomark _))
        (pss_one (ps_ret (qe_c c_make_graph hr (by decide) (by rfl) (pa_cons (pv 1) (pa_cons (pe_op op_cat (pe_lc (own := [("_law_u", 4), ("_law_v", 5)]) (g := (gTup K 2 (gCons (gName 4) (gCons (gName 5) gNil)))) (tt := tYes) (by rfl) scDoor.nd (pi_list (pv 2)) (blkOk_by (own := [("_law_u", 4), ("_law_v", 5)]) (N := ["_law_draws", "_law_nodes", "_law_edges_here", "_law_pick", "_law_u", "_law_v"]) (sc := defScope sDoor) (by decide +kernel)) (fun _ _ _ _ _ => (pg_tup rfl (pgs_cons (pg_name (i := 4) scDoor.nd rfl (Or.inl rfl)) (pgs_cons (pg_name (i := 5) scDoor.nd rfl (Or.inl rfl)) pgs_nil)))) (fun _ _ _ _ _ => pts_nil) (fun _ _ _ _ _ => (pe_tup (pa_cons (pv 5) (pa_cons (pv 4) pa_nil))))) (pe_slice sl_list (pv 2) po_none (po_some pe_int))) pa_nil)))))
        pss_nil)
      (pss_one (ps_ret (qe_mt0 c_complement hr (by decide) (qe_mt0 c_complement hr (by decide) (qe_mk c_Graph hr (by decide) (by rfl) (pa_cons (pv 1) (pa_cons (pe_callTy call_list_of (by rfl) m_list (by decide +kernel) (pa_cons (pv 2) pa_nil)) pa_nil)))))))))), ?_⟩
    refine ⟨_, rfl, d, l, rfl, D0, fun z H1 z0 z1 k1 D1 => ⟨_, _, rfl, rfl, (by show (0 : Int) < 3; decide), ?_⟩⟩
    have pl1 : PL H1 e es := by
      obtain ⟨ts, e1, e2⟩ := pl.ex
      exact ⟨ts, k1 _ _ e1 (by simpa using hed), e2.tk (D0.tks k1)⟩
    have free : ∀ g, H1 g = none → H g = none := fun g hg => by
      cases h : H g with
      | none => rfl
      | some o =>
        have nd : g ≠ d := by
          obtain ⟨xs, ed⟩ := D1.lst
          exact (ne_of_none ed hg).symm
        rw [k1 _ _ h (by simpa using nd)] at hg
        cases hg
    have fin : ∀ (g : Addr) (H' : Hp), Same H1 H' → H1 g = none → GraphAt C H' g n es → Q (.ref g) H' := fun g H' s hg G =>
      q g H' (k1.trans (same_keep s)) (D1.same s) (free g hg) G
    obtain ⟨ts, e1, e2⟩ := pl1.ex
    -- Graph(nodes, list(edges))
    have graph : ∀ {Q' : VK}, (∀ (g : Addr) (H' : Hp), Same H1 H' → H1 g = none → GraphAt C H' g n es → Q' (.ref g) H') →
        ∀ p, H1 p = none → ∀ x dx, upd H1 p (.lst (ts.map V.ref)) x = none → upd H1 p (.lst (ts.map V.ref)) dx = none → dx ≠ x →
          spGInit C (.ref x :: ([vi n, .ref p] ++ [])) (upd (upd (upd H1 p (.lst (ts.map V.ref))) dx (.own x)) x (.ins C dx [])) (fun v H2 => v = .non ∧ Q' (.ref x) H2) E0 := by
      intro Q' hQ p hp x dx nx ndx nex
      have s1 : Same H1 (upd H1 p (.lst (ts.map V.ref))) := same_new hp
      have pl2 : PL (upd H1 p (.lst (ts.map V.ref))) p es := ⟨ts, upd_same, e2.tk (TK.same s1)⟩
      exact ⟨x, dx, n, p, es, rfl, upd_same, pl2.made nx ndx, ok, fun H' G' k' => ⟨rfl, hQ x H' (s1.trans (made_same nx ndx k')) (s1.free nx) G'⟩⟩
    refine ⟨_, rfl, rfl, _, rfl, ite2 (fun hc => ?_) (fun hc => ?_)⟩
    · exact ⟨_, rfl, _, rfl, e, _, rfl, .inl (SqL.of e1), fun p hp => graph fin p hp⟩
    refine ⟨_, rfl, rfl, _, rfl, ite2 (fun hc => ?_) (fun hc => ?_)⟩
    · refine ⟨_, rfl, _, rfl, e, rfl, ⟨_, SqL.of e1⟩, fun D2 hD2 => lc_list (K := K) (a := e) (xs := ts.map V.ref) (fun i H' => Same H1 H' ∧ ∃ fs, PL H' D2 fs ∧ fs = (es.take i).map (fun e => (e.2, e.1)))
        ⟨same_new hD2, [], ⟨[], upd_same, .nil⟩, rfl⟩ (fun i H' _ h => h.1.seq (SqL.of e1)) ?_ ?_⟩
      · rintro i x H' hx ⟨sm, fs, f1, f2⟩
        obtain ⟨t, e', rfl, he, _, ht⟩ := e2.get hx
        refine ⟨t, _, rfl, SqT.of (sm _ _ ht), rfl, _, _, rfl, _, _, rfl, rfl, rfl, _, rfl, _, rfl, (by show 2 ≤ sizeLine; decide), fun u hu => ?_⟩
        have hfl : fs.length ≤ 1600 := by
          rw [f2, List.length_map, List.length_take]
          have := ok.len
          omega
        obtain ⟨acc, a1, a2, a3, a4⟩ := f1.put (by omega) hu (e'.2, e'.1) rfl rfl
        exact ⟨acc, a1, a2, Keep.back sm a4 (by simpa using hD2), _, a3, by rw [List.take_add_one, he, List.map_append, f2]; rfl⟩
      rintro H3 ⟨sm, fs, f1, f2⟩
      rw [List.length_map, e2.len, List.take_length] at f2
      obtain ⟨us, u1, u2⟩ := f1.ex
      refine ⟨_, rfl, _, rfl, e, _, rfl, sm.seq (SqL.of e1), fun p hp => ?_⟩
      rw [cut1]
      have s4 : Same H3 (upd H3 p (.lst ((ts.map V.ref).take 1))) := same_new hp
      have hfl : fs.length ≤ 1600 := by
        rw [f2, List.length_map]; exact ok.len
      refine ⟨D2, p, _, _, rfl, rfl, s4 _ _ u1, upd_same, ?_, fun l2 hl2 => ?_⟩
      · rw [List.length_map, u2.len, List.length_take]
        refine Nat.le_of_lt (small_le (m := 1601) ?_ (by decide))
        omega
      have s5 : Same (upd H3 p (.lst ((ts.map V.ref).take 1))) (upd (upd H3 p (.lst ((ts.map V.ref).take 1))) l2 (.lst (us.map V.ref ++ (ts.map V.ref).take 1))) := same_new hl2
      have sAll := (sm.trans s4).trans s5
      have tE : Tups H1 (ts.take 1) (es.take 1) := by
        refine ⟨by rw [List.length_take, List.length_take, e2.len], fun i t e h1 h2 => ?_⟩
        rw [List.getElem?_take] at h1 h2
        by_cases hi : i < 1
        · rw [if_pos hi] at h1 h2
          exact e2.at_ i t e h1 h2
        · rw [if_neg hi] at h1
          cases h1
      have pl5 : PL (upd (upd H3 p (.lst ((ts.map V.ref).take 1))) l2 (.lst (us.map V.ref ++ (ts.map V.ref).take 1))) l2 (fs ++ es.take 1) := by
        refine ⟨us ++ ts.take 1, by rw [upd_same, List.map_append, List.map_take], ((u2.tk (TK.same s4)).tk (TK.same s5)).append (tE.tk (TK.same sAll))⟩
      have hmem : ∀ e, e ∈ fs ++ es.take 1 → e ∈ es ∨ (e.2, e.1) ∈ es := by
        intro e he
        rcases List.mem_append.mp he with he | he
        · rw [f2] at he
          obtain ⟨x, hx, rfl⟩ := List.mem_map.mp he
          exact .inr hx
        · exact .inl (List.mem_of_mem_take he)
      refine ⟨n, l2, fs ++ es.take 1, rfl, hn, pl5, ?_, ?_, fun g H' es' s6 hg G hes' => ?_⟩
      · rw [List.length_append, List.length_take]
        omega
      · intro e he
        rcases hmem e he with h | h
        · have := ok.lt _ h; omega
        · have := ok.lt _ h; simp only at this; omega
      · have : es' = es := G.ok.ext ok fun a b => by
          rw [hes' a b]
          constructor
          · rintro ⟨q1, q2 | q2⟩
            · rcases hmem _ q2 with h | h
              · exact h
              · have := ok.lt _ h; simp only at this; omega
            · rcases hmem _ q2 with h | h
              · have := ok.lt _ h; simp only at this; omega
              · exact h
          · intro h
            refine ⟨(ok.lt _ h).1, .inr (List.mem_append_left _ ?_)⟩
            rw [f2]
            exact List.mem_map.mpr ⟨_, h, rfl⟩
        rw [this] at G
        exact fin g H' (sAll.trans s6) (sAll.free hg) G
    · -- complement twice
      refine ⟨_, rfl, _, rfl, e, _, rfl, .inl (SqL.of e1), fun p hp => ?_⟩
      intro x dx nx ndx nex
      have s1 : Same H1 (upd H1 p (.lst (ts.map V.ref))) := same_new hp
      have pl2 : PL (upd H1 p (.lst (ts.map V.ref))) p es := ⟨ts, upd_same, e2.tk (TK.same s1)⟩
      refine ⟨x, dx, n, p, es, rfl, upd_same, pl2.made nx ndx, ok, fun H2 G2 k' => ⟨rfl, ?_⟩⟩
      have s2 : Same H1 H2 := s1.trans (made_same nx ndx k')
      have hg := s1.free nx
      generalize x = g at *
      obtain ⟨dx2, le2, ll2, g1, _⟩ := G2.ex
      refine ⟨g, dx2, _, rfl, g1, rfl, g, n, es, rfl, G2, fun g3 H3 es3 s3 hg3 G3 hes3 => ?_⟩
      obtain ⟨dx3, le3, ll3, g2, _⟩ := G3.ex
      refine ⟨g3, dx3, _, rfl, g2, rfl, g3, n, es3, rfl, G3, fun g4 H4 es4 s4 hg4 G4 hes4 => ?_⟩
      have : es4 = es := G4.ok.ext ok fun a b => by
        rw [hes4 a b, hes3 a b]
        constructor
        · rintro ⟨q1, q2, q3⟩
          apply Classical.byContradiction
          intro h
          exact q3 ⟨q1, q2, h⟩
        · intro h
          have := ok.lt _ h
          simp only at this
          exact ⟨this.1, this.2, fun q => q.2.2 h⟩
      rw [this] at G4
      exact fin g4 H4 ((s2.trans s3).trans s4) ((s2.trans s3).free hg4) G4
end
end Cherry
namespace Cherry
open PySem PySem.Spec PyProof.Rows L2
section
variable {P : Program} {w : World} {K : PySem.W.Frag} {mg : Str → Option Value} {base : Heap}
theorem arr_atv {n : Nat} {f : Nat → V} {i : Nat} {v : V} (h : i < n) (e : f i = v) : atI (arr n f) (i : Int) = some v := by rw [← e]; exact arr_at h

def sf (g pa ha ba oa : Addr) : List (Str × V) := [("graph", .ref g), ("partners", .ref pa), ("heads", .ref ha), ("before", .ref ba), ("outer", .ref oa)]
structure STx (K : PySem.W.Frag) (C : Addr) : Prop where
  cl : Cls K C
  n1 : NoAttr K C "graph"
  n2 : NoAttr K C "partners"
  n3 : NoAttr K C "heads"
  n4 : NoAttr K C "before"
  n5 : NoAttr K C "outer"
/-- where the parts of a search stand -/
structure SA where
  s : Addr
  g : Addr
  pa : Addr
  ha : Addr
  ba : Addr
  oa : Addr
/-- a search at a.s over what stood in H0: the graph, the partners p; its own three lists are new since H0 -/
structure SAt (C C2 : Addr) (H0 H : Hp) (a : SA) (n : Nat) (es : List (Nat × Nat)) (p : Nat → Option Nat) (st : Cherry.St) : Prop where
  sm : Same H0 H
  h0 : H0 a.ha = none
  b0 : H0 a.ba = none
  o0 : H0 a.oa = none
  hb : a.ha ≠ a.ba
  ho : a.ha ≠ a.oa
  bo : a.ba ≠ a.oa
  G : GraphAt C H0 a.g n es
  pp : H0 a.pa = some (.lst (arr n fun x => ov (p x)))
  self : ∃ dx, H a.s = some (.ins C2 dx (sf a.g a.pa a.ha a.ba a.oa))
  hh : H a.ha = some (.lst (arr n fun x => vi (st.h x)))
  bb : H a.ba = some (.lst (arr n fun x => ov (st.b x)))
  oo : H a.oa = some (.lst (nl st.o))
theorem SAt.same {C C2 : Addr} {H0 H H' : Hp} {a : SA} {n : Nat} {es : List (Nat × Nat)} {p : Nat → Option Nat} {st : Cherry.St} (S : SAt C C2 H0 H a n es p st) (s : Same H H') : SAt C C2 H0 H' a n es p st := by
  obtain ⟨dx, e⟩ := S.self
  exact ⟨S.sm.trans s, S.h0, S.b0, S.o0, S.hb, S.ho, S.bo, S.G, S.pp, ⟨dx, s _ _ e⟩, s _ _ S.hh, s _ _ S.bb, s _ _ S.oo⟩
theorem ancL_len {n : Nat} {p : Nat → Option Nat} {h : Nat → Nat} {b : Nat → Option Nat} : ∀ (k x : Nat) (l : List Nat), ancL n p h b k x = some l → l.length ≤ k := by
  intro k
  induction k with
  | zero => intro x l h; cases h
  | succ k ih =>
    intro x l hl
    simp only [ancL, Option.bind_eq_some_iff] at hl
    obtain ⟨q, hq, hl⟩ := hl
    cases q with
    | none => cases hl; simp
    | some y =>
      simp only [Option.bind_eq_some_iff, Option.map_eq_some_iff] at hl
      obtain ⟨_, _, z, _, h', _, l', h3, rfl⟩ := hl
      have := ih _ _ h3
      simp; omega

def spAnc (C C2 : Addr) : Sp := fun vs H Q _ => ∃ (H0 : Hp) (a : SA) (n : Nat) (es : List (Nat × Nat)) (p : Nat → Option Nat) (st : Cherry.St) (x : Nat) (l : List Nat), vs = [.ref a.s, vi x] ∧ SAt C C2 H0 H a n es p st ∧ anc n p st x = some l ∧
  ∀ (r : Addr) (H' : Hp), Same H H' → H r = none → H' r = some (.lst (nl l)) → Q (.ref r) H'
abbrev sAnc : Stmt := inClass (top 2) 1
theorem scAnc : FnScope ["self", "node", "found", "here", "other"] ["self", "node"] (defScope sAnc) := ⟨rfl, rfl, rfl, by decide +kernel, rfl, by decide +kernel, by decide +kernel⟩
theorem ok_anc {C C2 : Addr} (D : Mdf K C2 "ancestors" "Search.ancestors" sAnc ["self", "node"]) (T : STx K C2) : Met P w K mg base 1 C2 "ancestors" (spAnc C C2) := by
  refine D.met scAnc (fun vs H Q E h => ?_) (fun f cdv A outer s H vs Q E hr h => ?_)
  · obtain ⟨H0, a, n, es, p, st, x, l, rfl, _⟩ := h
    rfl
  · obtain ⟨H0, a, n, es, p, st, x, l, rfl, S, hl, q⟩ := h
    have hn := S.G.ok.n40
    simp only [anc, Option.bind_eq_some_iff] at hl
    obtain ⟨h', hx, hl⟩ := hl
    obtain ⟨xn, eh⟩ := rd_some hx
    obtain ⟨dx, e1⟩ := S.self
    have hlen := ancL_len _ _ _ hl
    refine ⟨_, (pss_cons (ps_set (i := 2) scAnc.nd rfl (Or.inl rfl) (pe_lst pa_nil))
      (pss_cons (ps_set (i := 3) scAnc.nd rfl (Or.inl rfl) (pe_ix ix_list (pe_fld (pv 0) rfl) (pv 1) (fun _ _ => rfl)))
      (pss_one (ps_while PassesOwn.never (pt_val pe_bl)
        (pss_cons (ps_expr (pe_bm PySem.F.plainAttrs_list PySem.F.slot_list_append PySem.F.type_list_append mt_append (pv 2) (pa_cons (pv 3) pa_nil)))
        (pss_cons (ps_set (i := 4) scAnc.nd rfl (Or.inl rfl) (pe_ix ix_list (pe_fld (pv 0) rfl) (pv 3) (fun _ _ => rfl)))
        (pss_cons (ps_if (pt_cmpR op_isN (pv 4) pe_non (nomark _))
          (pss_one (ps_ret (pv 2)))
          pss_nil)
        (pss_one (ps_set (i := 3) scAnc.nd rfl (Or.inl rfl) (pe_ix ix_list (pe_fld (pv 0) rfl) (pe_ix ix_list (pe_fld (pv 0) rfl) (pv 4) (fun _ _ => rfl)) (fun _ _ => rfl))))))))))), ?_⟩
    refine ⟨Nat.zero_le _, fun r hr0 => ?_⟩
    have s0 : Same H (upd H r (.lst [])) := same_new hr0
    refine ⟨_, rfl, a.s, C2, dx, _, _, rfl, s0 _ _ e1, T.cl, T.n3, rfl, _, rfl, a.ha, _, _, _, rfl, rfl, SqL.of (s0 _ _ S.hh), arr_atv xn (by rw [eh]), ?_⟩
    refine ⟨fun k σ H' => ∃ (here : Nat) (acc rest : List Nat) (v4 : Option V), σ = [some (.ref a.s), some (vi x), some (.ref r), some (vi here), v4] ∧ Same H H' ∧ H' r = some (.lst (nl acc)) ∧ ancL n p st.h st.b k here = some rest ∧ acc ++ rest = l,
      ⟨n + 1, h', [], l, _, rfl, s0, upd_same, hl, rfl⟩, ?_⟩
    rintro k σ H1 ⟨here, acc, rest, v4, rfl, sm, hr1, hanc, hcat⟩
    cases k with
    | zero => cases hanc
    | succ k =>
      simp only [ancL, Option.bind_eq_some_iff] at hanc
      obtain ⟨py, hp, hanc⟩ := hanc
      obtain ⟨hn1, ep⟩ := rd_some hp
      have hacc : acc.length ≤ n + 1 := by
        have := congrArg List.length hcat
        rw [List.length_append] at this
        omega
      refine ⟨true, rfl, _, fun σ' H' h => ⟨k, Nat.lt_succ_self k, h⟩, ?_⟩
      -- found.append(here)
      refine ⟨_, rfl, .inl ⟨rfl, _, SqL.of hr1⟩, _, rfl, r, _, _, rfl, rfl, hr1, by rw [nl_len]; exact small_le (m := 41) (by omega) (by decide), ?_⟩
      have s2 : Same H (upd H1 r (.lst (nl acc ++ [vi here]))) := Keep.back sm (Keep.put (S := [r]) (by simp)) (by simpa using hr0)
      have hr2 : upd H1 r (.lst (nl acc ++ [vi here])) r = some (.lst (nl (acc ++ [here]))) := by rw [upd_same, nl_snoc]
      refine ⟨_, rfl, a.s, C2, dx, _, _, rfl, s2 _ _ e1, T.cl, T.n2, rfl, _, rfl, a.pa, _, _, _, rfl, rfl, SqL.of (s2 _ _ (S.sm _ _ S.pp)), arr_atv hn1 (by rw [ep]), ?_⟩
      cases py with
      | none =>
        cases hanc
        refine ⟨_, rfl, rfl, true, rfl, _, rfl, ?_⟩
        exact q r _ s2 hr0 (by rw [← hcat]; exact hr2)
      | some y =>
        simp only [Option.bind_eq_some_iff, Option.map_eq_some_iff] at hanc
        obtain ⟨bz, hb, z, rfl, hz, hh, rest', hrest, rfl⟩ := hanc
        obtain ⟨yn, eb⟩ := rd_some hb
        obtain ⟨zn, ez⟩ := rd_some hh
        refine ⟨_, rfl, rfl, false, rfl, ?_⟩
        refine ⟨_, rfl, a.s, C2, dx, _, _, rfl, s2 _ _ e1, T.cl, T.n3, rfl, _, rfl, a.s, C2, dx, _, _, rfl, s2 _ _ e1, T.cl, T.n4, rfl, _, rfl, a.ba, _, _, _, rfl, rfl, SqL.of (s2 _ _ S.bb), arr_atv yn (by rw [eb]; rfl), a.ha, _, _, _, rfl, rfl, SqL.of (s2 _ _ S.hh), arr_atv zn (by rw [ez]), ?_⟩
        exact ⟨hz, acc ++ [here], rest', _, rfl, s2, hr2, hrest, by rw [← hcat]; simp⟩
def spMeet (C C2 : Addr) : Sp := fun vs H Q _ => ∃ (H0 : Hp) (a : SA) (n : Nat) (es : List (Nat × Nat)) (p : Nat → Option Nat) (st : Cherry.St) (x y c : Nat), vs = [.ref a.s, vi x, vi y] ∧ SAt C C2 H0 H a n es p st ∧ meeting n p st x y = some c ∧
  ∀ (H' : Hp), Same H H' → Q (vi c) H'
abbrev sMeet : Stmt := inClass (top 2) 2
theorem scMeet : FnScope ["self", "first", "second", "known", "head"] ["self", "first", "second"] (defScope sMeet) := ⟨rfl, rfl, rfl, by decide +kernel, rfl, by decide +kernel, by decide +kernel⟩
theorem ok_meet {C C2 : Addr} (D : Mdf K C2 "meeting" "Search.meeting" sMeet ["self", "first", "second"]) (c_ancestors : Met P w K mg base 1 C2 "ancestors" (spAnc C C2)) : Met P w K mg base 2 C2 "meeting" (spMeet C C2) := by
  refine D.met scMeet (fun vs H Q E h => ?_) (fun f cdv A outer s H vs Q E hr h => ?_)
  · obtain ⟨H0, a, n, es, p, st, x, y, c, rfl, _⟩ := h
    rfl
  · obtain ⟨H0, a, n, es, p, st, x, y, c, rfl, S, hm, q⟩ := h
    simp only [meeting, Option.bind_eq_some_iff] at hm
    obtain ⟨known, h1, l, h2, hm⟩ := hm
    obtain ⟨dx, e1⟩ := S.self
    refine ⟨_, (pss_cons (ps_set (i := 3) scMeet.nd rfl (Or.inl rfl) (qe_mt c_ancestors hr (by decide) (pv 0) (pa_cons (pv 1) pa_nil)))
      (pss_cons (ps_for PassesOwn.never rfl (pi_list (qe_mt c_ancestors hr (by decide) (pv 0) (pa_cons (pv 2) pa_nil))) (pg_name (i := 4) scMeet.nd rfl (Or.inl rfl))
        (pss_one (ps_if (pt_cmpR op_in_seq (pv 4) (pv 3) rfl)
          (pss_one (ps_ret (pv 4)))
          pss_nil)))
      (pss_one (ps_ret pe_non)))), ?_⟩
    refine ⟨_, rfl, a.s, dx, _, rfl, e1, rfl, _, rfl, H0, a, n, es, p, st, x, known, rfl, S, h1, fun r1 H1 s1 n1 k1 => ?_⟩
    have S1 := S.same s1
    obtain ⟨dx1, e2⟩ := S1.self
    refine ⟨_, rfl, a.s, dx1, _, rfl, e2, rfl, _, rfl, H0, a, n, es, p, st, y, l, rfl, S1, h2, fun r2 H2 s2 n2 k2 => ?_⟩
    refine ⟨r2, rfl, ⟨_, SqL.of k2⟩, for_list (K := K) (a := r2) (xs := nl l) (fun i σ H' => ∃ v4 : Option V, σ = [some (.ref a.s), some (vi x), some (vi y), some (.ref r1), v4] ∧ H' = H2 ∧ ∀ z ∈ l.take i, z ∉ known)
      ⟨_, rfl, rfl, by simp⟩ (fun i σ H' _ ⟨_, _, e, _⟩ => by rw [e]; exact SqL.of k2) ?_ ?_⟩
    · rintro i z σ H' hz ⟨v4, rfl, rfl, hno⟩
      obtain ⟨z, hzl, rfl⟩ := nl_get hz
      refine ⟨_, rfl, _, rfl, r1, _, rfl, .inl (SqL.of (s2 _ _ k1)), rfl, flat_nl _, ?_⟩
      by_cases hk : z ∈ known
      · refine ⟨true, ?_, _, rfl, ?_⟩
        · show V.bl (inV (vi z) (nl known)) = V.bl true
          rw [in_nl, decide_eq_true hk]
        · have : c = z := by
            have e : l = l.take i ++ z :: l.drop (i + 1) := by
              have hi := (List.getElem?_eq_some_iff.mp hzl)
              rw [← hi.2, ← List.drop_eq_getElem_cons hi.1, List.take_append_drop]
            rw [e, List.find?_append] at hm
            have h0 : (l.take i).find? (fun c => decide (c ∈ known)) = none := by
              rw [List.find?_eq_none]
              intro u hu
              simpa using hno u hu
            rw [h0] at hm
            simp [hk] at hm
            exact hm.symm
          rw [← this]
          exact q _ (s1.trans s2)
      · refine ⟨false, ?_, _, rfl, rfl, ?_⟩
        · show V.bl (inV (vi z) (nl known)) = V.bl false
          rw [in_nl, decide_eq_false hk]
        · intro u hu
          rw [List.take_add_one, hzl] at hu
          rcases List.mem_append.mp hu with h | h
          · exact hno u h
          · have : u = z := by simpa using h
            rw [this]; exact hk
    · rintro σ H' ⟨v4, rfl, rfl, hno⟩
      exfalso
      have hc := List.mem_of_find?_eq_some hm
      have hk := List.find?_some hm
      rw [nl_len, List.take_length] at hno
      exact hno c hc (by simpa using hk)

theorem fu_arr {α : Type} {n : Nat} {f : Nat → α} {g : α → V} {i : Nat} {x : α} : (arr n fun y => g (f y)).set i (g x) = arr n fun y => g (fu f i x y) := by
  rw [arr_set]
  apply List.map_congr_left
  intro y _
  unfold fu
  split <;> rfl
def spMark (C C2 : Addr) : Sp := fun vs H Q _ => ∃ (H0 : Hp) (a : SA) (n : Nat) (es : List (Nat × Nat)) (p : Nat → Option Nat) (st : Cherry.St) (x c child : Nat) (ia : Addr) (ins : List Nat) (k : Nat) (r : List Nat × (Nat → Option Nat)),
  vs = [.ref a.s, vi x, vi c, vi child, .ref ia] ∧ SAt C C2 H0 H a n es p st ∧ H ia = some (.lst (nl ins)) ∧ H0 ia = none ∧ ia ≠ a.ha ∧ ia ≠ a.ba ∧ ia ≠ a.oa ∧ ins.length + 2 * k ≤ 1000 ∧ markL n p st.h c k x child ins st.b = some r ∧
  ∀ (H' : Hp), Keep [a.ba, ia] H H' → SAt C C2 H0 H' a n es p ⟨st.h, r.2, st.o⟩ → H' ia = some (.lst (nl r.1)) → Q .non H'
abbrev sMark : Stmt := inClass (top 2) 3
theorem scMark : FnScope ["self", "node", "head", "child", "inside", "other"] ["self", "node", "head", "child", "inside"] (defScope sMark) := ⟨rfl, rfl, rfl, by decide +kernel, rfl, by decide +kernel, by decide +kernel⟩
theorem SAt.upb {C C2 : Addr} {H0 H H' : Hp} {a : SA} {n : Nat} {es : List (Nat × Nat)} {p : Nat → Option Nat} {st : Cherry.St} {ia : Addr} {b' : Nat → Option Nat} (S : SAt C C2 H0 H a n es p st) (s : Keep [a.ba, ia] H H') (hia : H0 ia = none) (h1 : ia ≠ a.ha) (h2 : ia ≠ a.oa) {xs : List V} (h3 : H ia = some (.lst xs))
    (e : H' a.ba = some (.lst (arr n fun x => ov (b' x)))) : SAt C C2 H0 H' a n es p ⟨st.h, b', st.o⟩ := by
  obtain ⟨dx, q⟩ := S.self
  refine ⟨keepS S.sm s ?_, S.h0, S.b0, S.o0, S.hb, S.ho, S.bo, S.G, S.pp, ⟨dx, s _ _ q ?_⟩, s _ _ S.hh ?_, e, s _ _ S.oo ?_⟩
  · intro c hc
    rcases List.mem_cons.mp hc with hc | hc
    · rw [hc]; exact S.b0
    · rw [List.mem_singleton.mp hc]; exact hia
  · have n1 : a.s ≠ a.ba := ne_of q S.bb (by intro z; cases z)
    have n2 : a.s ≠ ia := ne_of q h3 (by intro z; cases z)
    simp [n1, n2]
  · simp [S.hb, h1.symm]
  · simp [S.bo.symm, h2.symm]
theorem ok_mark {C C2 : Addr} (D : Mdf K C2 "mark" "Search.mark" sMark ["self", "node", "head", "child", "inside"]) (T : STx K C2) : Met P w K mg base 1 C2 "mark" (spMark C C2) := by
  refine D.met scMark (fun vs H Q E h => ?_) (fun f cdv A outer s H vs Q E hr h => ?_)
  · obtain ⟨H0, a, n, es, p, st, x, c, child, ia, ins, k, r, rfl, _⟩ := h
    rfl
  · obtain ⟨H0, a, n, es, p, st, x, c, child, ia, ins, k, r, rfl, S, hia, nia, i1, i2, i3, hk, hmark, q⟩ := h
    have hn := S.G.ok.n40
    refine ⟨_, (pss_one (ps_while PassesOwn.never (pt_cmpR op_ne (pe_ix ix_list (pe_fld (pv 0) rfl) (pv 1) (fun _ _ => rfl)) (pv 2) (nomark _))
        (pss_cons (ps_set (i := 5) scMark.nd rfl (Or.inl rfl) (pe_ix ix_list (pe_fld (pv 0) rfl) (pv 1) (fun _ _ => rfl)))
        (pss_cons (ps_expr (pe_bm PySem.F.plainAttrs_list PySem.F.slot_list_append PySem.F.type_list_append mt_append (pv 4) (pa_cons (pe_ix ix_list (pe_fld (pv 0) rfl) (pv 1) (fun _ _ => rfl)) pa_nil)))
        (pss_cons (ps_expr (pe_bm PySem.F.plainAttrs_list PySem.F.slot_list_append PySem.F.type_list_append mt_append (pv 4) (pa_cons (pe_ix ix_list (pe_fld (pv 0) rfl) (pv 5) (fun _ _ => rfl)) pa_nil)))
        (pss_cons (ps_asg (pv 3) (pg_sub (pe_fld (pv 0) rfl) (pv 1) set_list))
        (pss_cons (ps_set (i := 3) scMark.nd rfl (Or.inl rfl) (pv 5))
        (pss_one (ps_set (i := 1) scMark.nd rfl (Or.inl rfl) (pe_ix ix_list (pe_fld (pv 0) rfl) (pv 5) (fun _ _ => rfl))))))))))), ?_⟩
    refine ⟨fun k σ H' => ∃ (x child : Nat) (ins : List Nat) (b : Nat → Option Nat) (v5 : Option V), σ = [some (.ref a.s), some (vi x), some (vi c), some (vi child), some (.ref ia), v5] ∧ Keep [a.ba, ia] H H' ∧ SAt C C2 H0 H' a n es p ⟨st.h, b, st.o⟩ ∧ H' ia = some (.lst (nl ins)) ∧ ins.length + 2 * k ≤ 1000 ∧ markL n p st.h c k x child ins b = some r,
      ⟨k, x, child, ins, st.b, _, rfl, Keep.refl _, S, hia, hk, hmark⟩, ?_⟩
    rintro k σ H1 ⟨x, child, ins, b, v5, rfl, kp, S1, hia1, hk1, hm⟩
    cases k with
    | zero => cases hm
    | succ k =>
      simp only [markL, Option.bind_eq_some_iff] at hm
      obtain ⟨hx, ex, hm⟩ := hm
      obtain ⟨xn, ex⟩ := rd_some ex
      obtain ⟨dx, e1⟩ := S1.self
      refine ⟨_, rfl, a.s, C2, dx, _, _, rfl, e1, T.cl, T.n3, rfl, _, rfl, a.ha, _, _, _, rfl, rfl, SqL.of S1.hh, arr_atv xn (by rw [show (⟨st.h, b, st.o⟩ : Cherry.St).h = st.h from rfl, ex]), _, rfl, rfl, ?_⟩
      by_cases hxc : hx = c
      · rw [if_pos hxc] at hm
        cases hm
        refine ⟨false, ?_, ?_⟩
        · rw [hxc]
          show V.bl (!decide (vi c = vi c)) = V.bl false
          simp
        · exact q H1 kp S1 hia1
      · rw [if_neg hxc] at hm
        simp only [Option.bind_eq_some_iff] at hm
        obtain ⟨py, hp, y, rfl, hy, ehy, bz, hb, z, rfl, hm⟩ := hm
        obtain ⟨_, ep⟩ := rd_some hp
        obtain ⟨yn, ehy⟩ := rd_some ehy
        obtain ⟨_, eb⟩ := rd_some hb
        refine ⟨true, ?_, _, fun σ' H' h => ⟨k, Nat.lt_succ_self k, h⟩, ?_⟩
        · show V.bl (!decide (vi hx = vi c)) = V.bl true
          rw [decide_eq_false (fun h => hxc (vi_inj.mp h))]; rfl
        -- other = self.partners[node]
        refine ⟨_, rfl, a.s, C2, dx, _, _, rfl, e1, T.cl, T.n2, rfl, _, rfl, a.pa, _, _, _, rfl, rfl, SqL.of (S1.sm _ _ S1.pp), arr_atv xn (by rw [ep]), ?_⟩
        -- inside.append(self.heads[node])
        refine ⟨_, rfl, .inl ⟨rfl, _, SqL.of hia1⟩, _, rfl, a.s, C2, dx, _, _, rfl, e1, T.cl, T.n3, rfl, _, rfl, a.ha, _, _, _, rfl, rfl, SqL.of S1.hh, arr_atv xn (by rw [show (⟨st.h, b, st.o⟩ : Cherry.St).h = st.h from rfl, ex]), ia, _, _, rfl, rfl, hia1, by rw [nl_len]; exact small_le (m := 1000) (by omega) (by decide), ?_⟩
        generalize hH2 : upd H1 ia _ = H2
        have k2 : Keep [ia] H1 H2 := by rw [← hH2]; exact Keep.put (by simp)
        have hia2 : H2 ia = some (.lst (nl (ins ++ [hx]))) := by rw [← hH2, upd_same, nl_snoc]
        have e2 : H2 a.s = some (.ins C2 dx (sf a.g a.pa a.ha a.ba a.oa)) := k2 _ _ e1 (by
          have n2 : a.s ≠ ia := ne_of e1 hia1 (by intro z; cases z)
          simpa using n2)
        have hh2 : H2 a.ha = some (.lst (arr n fun x => vi (st.h x))) := k2 _ _ S1.hh (by simpa using i1.symm)
        refine ⟨_, rfl, .inl ⟨rfl, _, SqL.of hia2⟩, _, rfl, a.s, C2, dx, _, _, rfl, e2, T.cl, T.n3, rfl, _, rfl, a.ha, _, _, _, rfl, rfl, SqL.of hh2, arr_atv yn (by rw [ehy]), ia, _, _, rfl, rfl, hia2, by rw [nl_len, List.length_append, List.length_singleton]; exact small_le (m := 1000) (by omega) (by decide), ?_⟩
        generalize hH3 : upd H2 ia _ = H3
        have k3 : Keep [ia] H2 H3 := by rw [← hH3]; exact Keep.put (by simp)
        have k13 : Keep [ia] H1 H3 := k2.trans k3
        have hia3 : H3 ia = some (.lst (nl (ins ++ [hx, hy]))) := by
          rw [← hH3, upd_same, ← nl_snoc, List.append_assoc]; rfl
        have e3 := k3 _ _ e2 (by
          have n2 : a.s ≠ ia := ne_of e1 hia1 (by intro z; cases z)
          simpa using n2)
        have bb3 := k13 _ _ S1.bb (by simpa using i2.symm)
        -- self.before[node] = child
        refine ⟨_, rfl, _, rfl, a.s, C2, dx, _, _, rfl, e3, T.cl, T.n4, rfl, _, rfl, a.ba, _, _, x, rfl, rfl, bb3, (by rw [arr_len]; exact ixN_nat xn), ?_⟩
        generalize hH4 : upd H3 a.ba _ = H4
        have k4 : Keep [a.ba] H3 H4 := by rw [← hH4]; exact Keep.put (by simp)
        have bb4 : H4 a.ba = some (.lst (arr n fun y => ov (fu b x (some child) y))) := by
          rw [← hH4, upd_same]
          exact congrArg (fun l => some (HO.lst l)) (fu_arr (g := ov) (x := some child))
        have e4 := k4 _ _ e3 (by
          have n2 : a.s ≠ a.ba := ne_of e1 S1.bb (by intro z; cases z)
          simpa using n2)
        have hia4 := k4 _ _ hia3 (by simpa using i2)
        have k14 : Keep [a.ba, ia] H1 H4 := (k13.mono (by simp)).trans (k4.mono (by simp))
        have S4 := S1.upb k14 nia i1 i3 hia1 bb4
        refine ⟨_, rfl, _, rfl, a.s, C2, dx, _, _, rfl, e4, T.cl, T.n4, rfl, _, rfl, a.ba, _, _, _, rfl, rfl, SqL.of bb4, arr_atv yn (by rw [eb]), ?_⟩
        exact ⟨z, y, ins ++ [hx, hy], fu b x (some child), _, rfl, kp.trans k14, S4, hia4, by rw [List.length_append]; simp; omega, hm⟩
end
end Cherry
namespace Cherry
open PySem PySem.Spec PyProof.Rows L2
section
variable {P : Program} {w : World} {K : PySem.W.Frag} {mg : Str → Option Value} {base : Heap}
/-! ### lengths -/
theorem markL_len {n : Nat} {p : Nat → Option Nat} {h : Nat → Nat} {c : Nat} : ∀ (k x child : Nat) (ins : List Nat) (b : Nat → Option Nat) (r : List Nat × (Nat → Option Nat)), markL n p h c k x child ins b = some r → r.1.length ≤ ins.length + 2 * k := by
  intro k
  induction k with
  | zero => intro x child ins b r h; cases h
  | succ k ih =>
    intro x child ins b r hm
    simp only [markL, Option.bind_eq_some_iff] at hm
    obtain ⟨hx, _, hm⟩ := hm
    split at hm
    · cases hm; simp
    · simp only [Option.bind_eq_some_iff] at hm
      obtain ⟨_, _, y, _, hy, _, _, _, z, _, hm⟩ := hm
      have := ih _ _ _ _ _ hm
      rw [List.length_append] at this
      simp at this
      omega
theorem shrinkStep_len (c : Nat) (ins : List Nat) : ∀ (L : List Nat) (ho : (Nat → Nat) × List Nat), (L.foldl (shrinkStep c ins) ho).2.length ≤ ho.2.length + L.length := by
  intro L
  induction L with
  | nil => intro ho; simp
  | cons a L ih =>
    intro ho
    have h1 := ih (shrinkStep c ins ho a)
    have h2 : (shrinkStep c ins ho a).2.length ≤ ho.2.length + 1 := by
      unfold shrinkStep
      split
      · show (if a ∈ ho.2 then ho.2 else ho.2 ++ [a]).length ≤ _
        split
        · omega
        · simp
      · omega
    simp only [List.foldl_cons, List.length_cons]
    omega
theorem shrink_len {n : Nat} {p : Nat → Option Nat} {st st' : Cherry.St} {u w : Nat} (h : Cherry.shrink n p st u w = some st') : st'.o.length ≤ st.o.length + n := by
  simp only [Cherry.shrink, Option.bind_eq_some_iff] at h
  obtain ⟨c, _, r1, _, r2, _, h⟩ := h
  cases h
  have := shrinkStep_len c r2.1 (List.range n) (st.h, st.o)
  rw [List.length_range] at this
  exact this
theorem reach_len {n : Nat} {p : Nat → Option Nat} {st st' : Cherry.St} {x z : Nat} {f : Bool} (h : Cherry.reach n p st x z = some (f, st')) : st'.o.length ≤ st.o.length + n + 1 := by
  simp only [Cherry.reach, Option.bind_eq_some_iff] at h
  obtain ⟨hx, _, hz, _, px, _, h⟩ := h
  split at h
  · cases h; omega
  · split at h
    · obtain ⟨s', h1, h2⟩ := Option.map_eq_some_iff.mp h
      cases h2
      have := shrink_len h1
      omega
    · simp only [Option.bind_eq_some_iff] at h
      obtain ⟨bz, _, h⟩ := h
      cases bz with
      | some _ => cases h; omega
      | none =>
        simp only [Option.bind_eq_some_iff] at h
        obtain ⟨pz, _, h⟩ := h
        cases pz with
        | none => cases h; show st.o.length ≤ _; omega
        | some t => cases h; simp

/-- a step of a search: only lists that are new since H0 change -/
theorem SAt.step {C C2 : Addr} {H0 H H' : Hp} {a : SA} {n : Nat} {es : List (Nat × Nat)} {p : Nat → Option Nat} {st st' : Cherry.St} {T : List Addr} (S : SAt C C2 H0 H a n es p st) (k : Keep T H H') (hT : ∀ c ∈ T, H0 c = none ∧ ∃ xs, H c = some (.lst xs))
    (hh : H' a.ha = some (.lst (arr n fun x => vi (st'.h x)))) (bb : H' a.ba = some (.lst (arr n fun x => ov (st'.b x)))) (oo : H' a.oa = some (.lst (nl st'.o))) : SAt C C2 H0 H' a n es p st' := by
  obtain ⟨dx, q⟩ := S.self
  refine ⟨keepS S.sm k fun c hc => (hT c hc).1, S.h0, S.b0, S.o0, S.hb, S.ho, S.bo, S.G, S.pp, ⟨dx, k _ _ q fun hm => ?_⟩, hh, bb, oo⟩
  obtain ⟨_, xs, e⟩ := hT _ hm
  rw [q] at e
  cases e
theorem SAt.own {C C2 : Addr} {H0 H : Hp} {a : SA} {n : Nat} {es : List (Nat × Nat)} {p : Nat → Option Nat} {st : Cherry.St} (S : SAt C C2 H0 H a n es p st) : ∀ c ∈ [a.ha, a.ba, a.oa], H0 c = none ∧ ∃ xs, H c = some (.lst xs) := by
  intro c hc
  simp only [List.mem_cons, List.not_mem_nil, or_false] at hc
  rcases hc with rfl | rfl | rfl
  · exact ⟨S.h0, _, S.hh⟩
  · exact ⟨S.b0, _, S.bb⟩
  · exact ⟨S.o0, _, S.oo⟩

def spShrink (C C2 : Addr) : Sp := fun vs H Q _ => ∃ (H0 : Hp) (a : SA) (n : Nat) (es : List (Nat × Nat)) (p : Nat → Option Nat) (st : Cherry.St) (x y : Nat) (st' : Cherry.St), vs = [.ref a.s, vi x, vi y] ∧ SAt C C2 H0 H a n es p st ∧ st.o.length ≤ 90000 ∧ Cherry.shrink n p st x y = some st' ∧
  ∀ (H' : Hp), Keep [a.ha, a.ba, a.oa] H H' → SAt C C2 H0 H' a n es p st' → Q .non H'
abbrev sShrink : Stmt := inClass (top 2) 4
theorem scShrink : FnScope ["self", "first", "second", "head", "inside", "node"] ["self", "first", "second"] (defScope sShrink) := ⟨rfl, rfl, rfl, by decide +kernel, rfl, by decide +kernel, by decide +kernel⟩
theorem ok_shrink {C C2 : Addr} (D : Mdf K C2 "shrink" "Search.shrink" sShrink ["self", "first", "second"]) (T : STx K C2) (TG : GTx K C) (m_range : mg "range" = none) (c_meeting : Met P w K mg base 2 C2 "meeting" (spMeet C C2)) (c_mark : Met P w K mg base 1 C2 "mark" (spMark C C2)) :
    Met P w K mg base 3 C2 "shrink" (spShrink C C2) := by
  refine D.met scShrink (fun vs H Q E h => ?_) (fun f cdv A outer s H vs Q E hr h => ?_)
  · obtain ⟨H0, a, n, es, p, st, x, y, st', rfl, _⟩ := h
    rfl
  · obtain ⟨H0, a, n, es, p, st, x, y, st', rfl, S, hol, hs, q⟩ := h
    have hn := S.G.ok.n40
    have hs0 := hs
    simp only [Cherry.shrink, Option.bind_eq_some_iff] at hs
    obtain ⟨c, hm, r1, hm1, r2, hm2, hs⟩ := hs
    have hs := Option.some.inj hs
    have l1 := markL_len _ _ _ _ _ _ hm1
    have l2 := markL_len _ _ _ _ _ _ hm2
    simp only [List.length_nil] at l1
    obtain ⟨dx, e1⟩ := S.self
    refine ⟨_, (pss_cons (ps_set (i := 3) scShrink.nd rfl (Or.inl rfl) (qe_mt c_meeting hr (by decide) (pv 0) (pa_cons (pv 1) (pa_cons (pv 2) pa_nil))))
      (pss_cons (ps_set (i := 4) scShrink.nd rfl (Or.inl rfl) (pe_lst pa_nil))
      (pss_cons (ps_expr (qe_mt c_mark hr (by decide) (pv 0) (pa_cons (pv 1) (pa_cons (pv 3) (pa_cons (pv 2) (pa_cons (pv 4) pa_nil))))))
      (pss_cons (ps_expr (qe_mt c_mark hr (by decide) (pv 0) (pa_cons (pv 2) (pa_cons (pv 3) (pa_cons (pv 1) (pa_cons (pv 4) pa_nil))))))
      (pss_one (ps_for PassesOwn.never rfl (pi_range1 (by rfl) m_range (pa_cons (pe_fld (pe_fld (pv 0) rfl) rfl) pa_nil)) (pg_name (i := 5) scShrink.nd rfl (Or.inl rfl))
        (pss_one (ps_if (pt_cmpR op_in_seq (pe_ix ix_list (pe_fld (pv 0) rfl) (pv 5) (fun _ _ => rfl)) (pv 4) rfl)
          (pss_cons (ps_asg (pv 3) (pg_sub (pe_fld (pv 0) rfl) (pv 5) set_list))
          (pss_one (ps_if (pt_cmpR op_notIn_seq (pv 5) (pe_fld (pv 0) rfl) rfl)
            (pss_one (ps_expr (pe_bm PySem.F.plainAttrs_list PySem.F.slot_list_append PySem.F.type_list_append mt_append (pe_fld (pv 0) rfl) (pa_cons (pv 5) pa_nil))))
            pss_nil)))
          pss_nil)))))))), ?_⟩
    refine ⟨_, rfl, a.s, dx, _, rfl, e1, rfl, _, rfl, _, rfl, H0, a, n, es, p, st, x, y, c, rfl, S, hm, fun H1 s1 => ?_⟩
    have S1 := S.same s1
    refine ⟨Nat.zero_le _, fun ia hia => ?_⟩
    have s2 : Same H1 (upd H1 ia (.lst [])) := same_new hia
    have S2 := S1.same s2
    have nH : H ia = none := s1.free hia
    have n0 : H0 ia = none := S.sm.free nH
    have i1 : ia ≠ a.ha := (ne_of_none S1.hh hia).symm
    have i2 : ia ≠ a.ba := (ne_of_none S1.bb hia).symm
    have i3 : ia ≠ a.oa := (ne_of_none S1.oo hia).symm
    obtain ⟨dx2, e2⟩ := S2.self
    refine ⟨_, rfl, a.s, dx2, _, rfl, e2, rfl, _, rfl, _, rfl, _, rfl, _, rfl, H0, a, n, es, p, st, x, c, y, ia, [], n + 1, r1, rfl, S2, upd_same, n0, i1, i2, i3, (by simp only [List.length_nil]; omega), hm1, fun H3 k3 S3 hia3 => ?_⟩
    obtain ⟨dx3, e3⟩ := S3.self
    refine ⟨_, rfl, a.s, dx3, _, rfl, e3, rfl, _, rfl, _, rfl, _, rfl, _, rfl, H0, a, n, es, p, _, y, c, x, ia, r1.1, n + 1, r2, rfl, S3, hia3, n0, i1, i2, i3, (by omega), hm2, fun H4 k4 S4 hia4 => ?_⟩
    obtain ⟨dx4, e4⟩ := S4.self
    obtain ⟨dxg, le, ll, g1, _⟩ := S.G.ex
    have kk : Keep [a.ha, a.ba, a.oa, ia] H H4 := ((same_keep (s1.trans s2)).trans (k3.mono (by simp))).trans (k4.mono (by simp))
    refine ⟨_, rfl, a.s, C2, dx4, _, _, rfl, e4, T.cl, T.n1, rfl, a.g, C, dxg, _, _, rfl, S4.sm _ _ g1, TG.cl, TG.n1, rfl, _, rfl, by omega, by omega, for_rng0 (n := n) (fun i σ H' => ∃ v5 : Option V, σ = [some (.ref a.s), some (vi x), some (vi y), some (vi c), some (.ref ia), v5] ∧
        Keep [a.ha, a.ba, a.oa, ia] H H' ∧ SAt C C2 H0 H' a n es p ⟨((List.range i).foldl (shrinkStep c r2.1) (st.h, st.o)).1, r2.2, ((List.range i).foldl (shrinkStep c r2.1) (st.h, st.o)).2⟩ ∧ H' ia = some (.lst (nl r2.1)))
      ⟨_, rfl, kk, S4, hia4⟩ ?_ ?_⟩
    · rintro i σ H5 hi ⟨v5, rfl, k5, S5, hia5⟩
      rw [List.range_succ, List.foldl_append]
      have hl5 := shrinkStep_len c r2.1 (List.range i) (st.h, st.o)
      rw [List.length_range] at hl5
      generalize (List.range i).foldl (shrinkStep c r2.1) (st.h, st.o) = ho at *
      obtain ⟨h5, o5⟩ := ho
      simp only at S5 hl5
      show ∃ x, _
      obtain ⟨dx5, e5⟩ := S5.self
      refine ⟨_, rfl, a.s, C2, dx5, _, _, rfl, e5, T.cl, T.n3, rfl, _, rfl, a.ha, _, _, _, rfl, rfl, SqL.of S5.hh, arr_at hi, _, rfl, ia, _, rfl, .inl (SqL.of hia5), rfl, flat_nl _, ?_⟩
      by_cases hin : h5 i ∈ r2.1
      · refine ⟨true, ?_, ?_⟩
        · show V.bl (inV (vi (h5 i)) (nl r2.1)) = V.bl true
          rw [in_nl, decide_eq_true hin]
        refine ⟨_, rfl, _, rfl, a.s, C2, dx5, _, _, rfl, e5, T.cl, T.n3, rfl, _, rfl, a.ha, _, _, i, rfl, rfl, S5.hh, (by rw [arr_len]; exact ixN_nat hi), ?_⟩
        generalize hH6 : upd H5 a.ha _ = H6
        have k6 : Keep [a.ha] H5 H6 := by rw [← hH6]; exact Keep.put (by simp)
        have hh6 : H6 a.ha = some (.lst (arr n fun y => vi (fu h5 i c y))) := by
          rw [← hH6, upd_same]
          exact congrArg (fun l => some (HO.lst l)) (fu_arr (g := vi) (x := c))
        have S6 : SAt C C2 H0 H6 a n es p ⟨fu h5 i c, r2.2, o5⟩ := S5.step k6 (fun c hc => S5.own c (by simp only [List.mem_singleton] at hc; simp [hc])) hh6 (k6 _ _ S5.bb (by simpa using S5.hb.symm)) (k6 _ _ S5.oo (by simpa using S5.ho.symm))
        have hia6 := k6 _ _ hia5 (by simpa using i1)
        obtain ⟨dx6, e6⟩ := S6.self
        have kk6 : Keep [a.ha, a.ba, a.oa, ia] H H6 := k5.trans (k6.mono (by simp))
        refine ⟨_, rfl, _, rfl, a.s, C2, dx6, _, _, rfl, e6, T.cl, T.n5, rfl, a.oa, _, rfl, .inl (SqL.of S6.oo), rfl, flat_nl _, ?_⟩
        by_cases ho : i ∈ o5
        · refine ⟨false, ?_, _, rfl, kk6, ?_, hia6⟩
          · show V.bl (!inV (vi i) (nl o5)) = V.bl false
            rw [in_nl, decide_eq_true ho]; rfl
          · have e : [i].foldl (shrinkStep c r2.1) (h5, o5) = (fu h5 i c, o5) := by simp [shrinkStep, hin, ho]
            rw [e]; exact S6
        · refine ⟨true, ?_, ?_⟩
          · show V.bl (!inV (vi i) (nl o5)) = V.bl true
            rw [in_nl, decide_eq_false ho]; rfl
          refine ⟨_, rfl, a.s, C2, dx6, _, _, rfl, e6, T.cl, T.n5, rfl, .inl ⟨rfl, _, SqL.of S6.oo⟩, _, rfl, a.oa, _, _, rfl, rfl, S6.oo, by rw [nl_len]; exact small_le (m := 100000) (by show o5.length ≤ _; omega) (by decide), ?_⟩
          generalize hH7 : upd H6 a.oa _ = H7
          have k7 : Keep [a.oa] H6 H7 := by rw [← hH7]; exact Keep.put (by simp)
          have oo7 : H7 a.oa = some (.lst (nl (o5 ++ [i]))) := by rw [← hH7, upd_same, nl_snoc]
          have S7 : SAt C C2 H0 H7 a n es p ⟨fu h5 i c, r2.2, o5 ++ [i]⟩ := S6.step k7 (fun c hc => S6.own c (by simp only [List.mem_singleton] at hc; simp [hc])) (k7 _ _ S6.hh (by simpa using S5.ho)) (k7 _ _ S6.bb (by simpa using S5.bo)) oo7
          refine ⟨_, rfl, kk6.trans (k7.mono (by simp)), ?_, k7 _ _ hia6 (by simpa using i3)⟩
          have e : [i].foldl (shrinkStep c r2.1) (h5, o5) = (fu h5 i c, o5 ++ [i]) := by simp [shrinkStep, hin, ho]
          rw [e]; exact S7
      · refine ⟨false, ?_, _, rfl, k5, ?_, hia5⟩
        · show V.bl (inV (vi (h5 i)) (nl r2.1)) = V.bl false
          rw [in_nl, decide_eq_false hin]
        · have e : [i].foldl (shrinkStep c r2.1) (h5, o5) = (h5, o5) := by simp [shrinkStep, hin]
          rw [e]; exact S5
    · rintro σ H5 ⟨v5, rfl, k5, S5, hia5⟩
      rw [← hs] at q
      refine q H5 (fun b o hb hn => k5 b o hb fun hm => ?_) S5
      have nb : b ≠ ia := ne_of_none hb nH
      simp only [List.mem_cons, List.not_mem_nil, or_false] at hm hn
      rcases hm with h | h | h | h
      · exact hn (.inl h)
      · exact hn (.inr (.inl h))
      · exact hn (.inr (.inr h))
      · exact nb h

def spReach (C C2 : Addr) : Sp := fun vs H Q _ => ∃ (H0 : Hp) (a : SA) (n : Nat) (es : List (Nat × Nat)) (p : Nat → Option Nat) (st : Cherry.St) (x z : Nat) (r : Bool × Cherry.St), vs = [.ref a.s, vi x, vi z] ∧ SAt C C2 H0 H a n es p st ∧ st.o.length ≤ 90000 ∧ Cherry.reach n p st x z = some r ∧
  ∀ (H' : Hp), Keep [a.ha, a.ba, a.oa] H H' → SAt C C2 H0 H' a n es p r.2 → Q (.bl r.1) H'
abbrev sReach : Stmt := inClass (top 2) 5
theorem scReach : FnScope ["self", "node", "other"] ["self", "node", "other"] (defScope sReach) := ⟨rfl, rfl, rfl, by decide +kernel, rfl, by decide +kernel, by decide +kernel⟩
theorem ok_reach {C C2 : Addr} (D : Mdf K C2 "reach" "Search.reach" sReach ["self", "node", "other"]) (T : STx K C2) (c_shrink : Met P w K mg base 3 C2 "shrink" (spShrink C C2)) : Met P w K mg base 4 C2 "reach" (spReach C C2) := by
  refine D.met scReach (fun vs H Q E h => ?_) (fun f cdv A outer s H vs Q E hr h => ?_)
  · obtain ⟨H0, a, n, es, p, st, x, z, r, rfl, _⟩ := h
    rfl
  · obtain ⟨H0, a, n, es, p, st, x, z, r, rfl, S, hol, hrc, q⟩ := h
    simp only [Cherry.reach, Option.bind_eq_some_iff] at hrc
    obtain ⟨hx, ehx, hz, ehz, px, ep, hrc⟩ := hrc
    obtain ⟨xn, ehx⟩ := rd_some ehx
    obtain ⟨zn, ehz⟩ := rd_some ehz
    obtain ⟨_, ep⟩ := rd_some ep
    obtain ⟨dx, e1⟩ := S.self
    refine ⟨_, (pss_cons (ps_if (PW.pt (pw_or (pt_cmpR op_eq (pe_ix ix_list (pe_fld (pv 0) rfl) (pv 1) (fun _ _ => rfl)) (pe_ix ix_list (pe_fld (pv 0) rfl) (pv 2) (fun _ _ => rfl)) (nomark _)) (pw_or1 (pt_cmpR op_eq (pe_ix ix_list (pe_fld (pv 0) rfl) (pv 1) (fun _ _ => rfl)) (pv 2) (nomark _)))))
        (pss_one (ps_ret pe_bl))
        pss_nil)
      (pss_cons (ps_if (pt_cmpR op_in_seq (pv 2) (pe_fld (pv 0) rfl) rfl)
        (pss_one (ps_expr (qe_mt c_shrink hr (by decide) (pv 0) (pa_cons (pv 1) (pa_cons (pv 2) pa_nil)))))
        (pss_one (ps_if (pt_cmpR op_isN (pe_ix ix_list (pe_fld (pv 0) rfl) (pv 2) (fun _ _ => rfl)) pe_non (nomark _))
          (pss_cons (ps_asg (pv 1) (pg_sub (pe_fld (pv 0) rfl) (pv 2) set_list))
          (pss_cons (ps_if (pt_cmpR op_isN (pe_ix ix_list (pe_fld (pv 0) rfl) (pv 2) (fun _ _ => rfl)) pe_non (nomark _))
            (pss_one (ps_ret pe_bl))
            pss_nil)
          (pss_one (ps_expr (pe_bm PySem.F.plainAttrs_list PySem.F.slot_list_append PySem.F.type_list_append mt_append (pe_fld (pv 0) rfl) (pa_cons (pe_ix ix_list (pe_fld (pv 0) rfl) (pv 2) (fun _ _ => rfl)) pa_nil))))))
          pss_nil)))
      (pss_one (ps_ret pe_bl)))), ?_⟩
    refine ⟨_, rfl, a.s, C2, dx, _, _, rfl, e1, T.cl, T.n3, rfl, _, rfl, a.ha, _, _, _, rfl, rfl, SqL.of S.hh, arr_atv xn (by rw [ehx]), _, rfl, a.s, C2, dx, _, _, rfl, e1, T.cl, T.n3, rfl, _, rfl, a.ha, _, _, _, rfl, rfl, SqL.of S.hh, arr_atv zn (by rw [ehz]), rfl, ?_⟩
    by_cases h1 : hx = hz
    · rw [if_pos (.inl h1)] at hrc
      cases hrc
      refine ⟨true, ?_, ?_⟩
      · rw [h1]; exact bT rfl
      · exact q H (Keep.refl _) S
    refine ⟨false, bF (fun h => h1 (vi_inj.mp h)), ?_⟩
    refine ⟨_, rfl, a.s, C2, dx, _, _, rfl, e1, T.cl, T.n2, rfl, _, rfl, a.pa, _, _, _, rfl, rfl, SqL.of (S.sm _ _ S.pp), arr_atv xn (by rw [ep]), _, rfl, (by cases px <;> rfl), ?_⟩
    by_cases h2 : px = some z
    · rw [if_pos (.inr h2)] at hrc
      cases hrc
      refine ⟨true, ?_, ?_⟩
      · rw [h2]; exact bT rfl
      · exact q H (Keep.refl _) S
    refine ⟨false, bF (fun h => h2 ?_), ?_⟩
    · cases px with
      | none => cases h
      | some y => rw [vi_inj.mp h]
    rw [if_neg (fun h => h.elim h1 h2)] at hrc
    -- if other in self.outer
    refine ⟨_, rfl, _, rfl, a.s, C2, dx, _, _, rfl, e1, T.cl, T.n5, rfl, a.oa, _, rfl, .inl (SqL.of S.oo), rfl, flat_nl _, ?_⟩
    by_cases h3 : z ∈ st.o
    · rw [if_pos h3] at hrc
      obtain ⟨st', hs, hrc⟩ := Option.map_eq_some_iff.mp hrc
      subst hrc
      refine ⟨true, ?_, ?_⟩
      · show V.bl (inV (vi z) (nl st.o)) = V.bl true
        rw [in_nl, decide_eq_true h3]
      refine ⟨_, rfl, a.s, dx, _, rfl, e1, rfl, _, rfl, _, rfl, H0, a, n, es, p, st, x, z, st', rfl, S, hol, hs, fun H1 k1 S1 => ?_⟩
      exact q H1 k1 S1
    rw [if_neg h3] at hrc
    refine ⟨false, ?_, ?_⟩
    · show V.bl (inV (vi z) (nl st.o)) = V.bl false
      rw [in_nl, decide_eq_false h3]
    simp only [Option.bind_eq_some_iff] at hrc
    obtain ⟨bz, eb, hrc⟩ := hrc
    obtain ⟨_, eb⟩ := rd_some eb
    -- elif self.before[other] is None
    refine ⟨_, rfl, a.s, C2, dx, _, _, rfl, e1, T.cl, T.n4, rfl, _, rfl, a.ba, _, _, _, rfl, rfl, SqL.of S.bb, arr_atv zn (by rw [eb]), rfl, ?_⟩
    cases bz with
    | some y =>
      cases hrc
      exact ⟨false, rfl, q H (Keep.refl _) S⟩
    | none =>
      simp only [Option.bind_eq_some_iff] at hrc
      obtain ⟨pz, epz, hrc⟩ := hrc
      obtain ⟨_, epz⟩ := rd_some epz
      refine ⟨true, rfl, ?_⟩
      -- self.before[other] = node
      refine ⟨_, rfl, _, rfl, a.s, C2, dx, _, _, rfl, e1, T.cl, T.n4, rfl, _, rfl, a.ba, _, _, z, rfl, rfl, S.bb, (by rw [arr_len]; exact ixN_nat zn), ?_⟩
      generalize hH1 : upd H a.ba _ = H1
      have k1 : Keep [a.ba] H H1 := by rw [← hH1]; exact Keep.put (by simp)
      have bb1 : H1 a.ba = some (.lst (arr n fun y => ov (fu st.b z (some x) y))) := by
        rw [← hH1, upd_same]
        exact congrArg (fun l => some (HO.lst l)) (fu_arr (g := ov) (x := some x))
      have S1 : SAt C C2 H0 H1 a n es p ⟨st.h, fu st.b z (some x), st.o⟩ := S.step k1 (fun c hc => S.own c (by simp only [List.mem_singleton] at hc; simp [hc])) (k1 _ _ S.hh (by simpa using S.hb)) bb1 (k1 _ _ S.oo (by simpa using S.bo.symm))
      obtain ⟨dx1, e2⟩ := S1.self
      have kk1 : Keep [a.ha, a.ba, a.oa] H H1 := k1.mono (by simp)
      refine ⟨_, rfl, a.s, C2, dx1, _, _, rfl, e2, T.cl, T.n2, rfl, _, rfl, a.pa, _, _, _, rfl, rfl, SqL.of (S1.sm _ _ S1.pp), arr_atv zn (by rw [epz]), rfl, ?_⟩
      cases pz with
      | none =>
        cases hrc
        exact ⟨true, rfl, q H1 kk1 S1⟩
      | some t =>
        cases hrc
        refine ⟨false, rfl, ?_⟩
        refine ⟨_, rfl, a.s, C2, dx1, _, _, rfl, e2, T.cl, T.n5, rfl, .inl ⟨rfl, _, SqL.of S1.oo⟩, _, rfl, a.s, C2, dx1, _, _, rfl, e2, T.cl, T.n2, rfl, _, rfl, a.pa, _, _, _, rfl, rfl, SqL.of (S1.sm _ _ S1.pp), arr_atv zn (by rw [epz]), a.oa, _, _, rfl, rfl, S1.oo, by rw [nl_len]; exact small_le hol (by decide), ?_⟩
        generalize hH2 : upd H1 a.oa _ = H2
        have k2 : Keep [a.oa] H1 H2 := by rw [← hH2]; exact Keep.put (by simp)
        have oo2 : H2 a.oa = some (.lst (nl (st.o ++ [t]))) := by rw [← hH2, upd_same, nl_snoc]; rfl
        have S2 : SAt C C2 H0 H2 a n es p ⟨st.h, fu st.b z (some x), st.o ++ [t]⟩ := S1.step k2 (fun c hc => S1.own c (by simp only [List.mem_singleton] at hc; simp [hc])) (k2 _ _ S1.hh (by simpa using S.ho)) (k2 _ _ S1.bb (by simpa using S.bo)) oo2
        exact q H2 (kk1.trans (k2.mono (by simp))) S2
end
end Cherry
namespace Cherry
open PySem PySem.Spec PyProof.Rows L2
section
variable {P : Program} {w : World} {K : PySem.W.Frag} {mg : Str → Option Value} {base : Heap}
theorem lks_len {n : Nat} {es : List (Nat × Nat)} {x : Nat} : (lks n es x).length ≤ n := by
  unfold lks
  refine Nat.le_trans (List.length_filter_le _ _) ?_
  rw [List.length_range]; exact Nat.le_refl _
def spRun (C C2 : Addr) : Sp := fun vs H Q _ => ∃ (H0 : Hp) (a : SA) (n : Nat) (es : List (Nat × Nat)) (p : Nat → Option Nat) (st : Cherry.St) (r : Option Nat × Cherry.St), vs = [.ref a.s] ∧ SAt C C2 H0 H a n es p st ∧ st.o.length ≤ 1 ∧ runL n (lks n es) p (n + 1) 0 st = some r ∧
  ∀ (H' : Hp), Keep [a.ha, a.ba, a.oa] H H' → SAt C C2 H0 H' a n es p r.2 → Q (ov r.1) H'
abbrev sRun : Stmt := inClass (top 2) 6
theorem scRun : FnScope ["self", "at", "node", "other"] ["self"] (defScope sRun) := ⟨rfl, rfl, rfl, by decide +kernel, rfl, by decide +kernel, by decide +kernel⟩
theorem ok_run {C C2 : Addr} (D : Mdf K C2 "run" "Search.run" sRun ["self"]) (T : STx K C2) (TG : GTx K C) (m_len : mg "len" = none) (c_reach : Met P w K mg base 4 C2 "reach" (spReach C C2)) : Met P w K mg base 5 C2 "run" (spRun C C2) := by
  refine D.met scRun (fun vs H Q E h => ?_) (fun f cdv A outer s H vs Q E hr h => ?_)
  · obtain ⟨H0, a, n, es, p, st, r, rfl, _⟩ := h
    rfl
  · obtain ⟨H0, a, n, es, p, st, r, rfl, S, hol, hrun, q⟩ := h
    have hn := S.G.ok.n40
    obtain ⟨dxg, le, ll, g1, _, rs, r1, r2⟩ := S.G.ex
    refine ⟨_, (pss_cons (ps_set (i := 1) scRun.nd rfl (Or.inl rfl) pe_int)
      (pss_cons (ps_while PassesOwn.never (pt_cmpR op_lt (pv 1) (pe_callB call_len_seq (by rfl) m_len PySem.boot_len (pa_cons (pe_fld (pv 0) rfl) pa_nil)) (nomark _))
        (pss_cons (ps_set (i := 2) scRun.nd rfl (Or.inl rfl) (pe_ix ix_list (pe_fld (pv 0) rfl) (pv 1) (fun _ _ => rfl)))
        (pss_cons (ps_for PassesOwn.never rfl (pi_list (pe_ix ix_list (pe_fld (pe_fld (pv 0) rfl) rfl) (pv 2) (fun _ _ => rfl))) (pg_name (i := 3) scRun.nd rfl (Or.inl rfl))
          (pss_one (ps_if (pt_val (qe_mt c_reach hr (by decide) (pv 0) (pa_cons (pv 2) (pa_cons (pv 3) pa_nil))))
            (pss_one (ps_ret (pv 3)))
            pss_nil)))
        (pss_one (ps_aug (i := 1) scRun.nd rfl (Or.inl rfl) pe_int ip_add)))))
      (pss_one (ps_ret pe_non)))), ?_⟩
    refine ⟨fun k σ H' => ∃ (i : Nat) (st : Cherry.St) (v2 v3 : Option V), σ = [some (.ref a.s), some (vi i), v2, v3] ∧ Keep [a.ha, a.ba, a.oa] H H' ∧ SAt C C2 H0 H' a n es p st ∧ runL n (lks n es) p k i st = some r ∧ st.o.length + 1700 * k ≤ 90000,
      ⟨n + 1, 0, st, _, _, rfl, Keep.refl _, S, hrun, by omega⟩, ?_⟩
    rintro k σ H1 ⟨i, st1, v2, v3, rfl, k1, S1, hr1, hb⟩
    obtain ⟨dx, e1⟩ := S1.self
    cases k with
    | zero => cases hr1
    | succ k =>
      refine ⟨_, rfl, _, rfl, a.s, C2, dx, _, _, rfl, e1, T.cl, T.n5, rfl, a.oa, _, rfl, .inl (SqL.of S1.oo), _, _, rfl, rfl, ?_⟩
      rw [nl_len]
      cases ho : st1.o[i]? with
      | none =>
        have hi := List.getElem?_eq_none_iff.mp ho
        simp only [runL, ho] at hr1
        cases hr1
        refine ⟨false, bF (by omega), ?_⟩
        exact q H1 k1 S1
      | some x =>
        have hi := (List.getElem?_eq_some_iff.mp ho).1
        simp only [runL, ho, Option.bind_eq_some_iff] at hr1
        obtain ⟨L, eL, r', hfor, hr1⟩ := hr1
        obtain ⟨xn, eL⟩ := rd_some eL
        refine ⟨true, bT (by omega), _, fun σ' H' h => ⟨k, Nat.lt_succ_self k, h⟩, ?_⟩
        -- node = self.outer[at]
        refine ⟨_, rfl, a.s, C2, dx, _, _, rfl, e1, T.cl, T.n5, rfl, _, rfl, a.oa, _, _, _, rfl, rfl, SqL.of S1.oo, atI_nat (j := i) (v := vi x) (by rw [List.getElem?_map, ho]; rfl), ?_⟩
        -- for other in self.graph.links[node]
        obtain ⟨rw_, a1, a2, a3⟩ := r2.get xn
        have hLl : L.length ≤ n := by rw [← eL]; exact lks_len
        rw [eL] at a3
        refine ⟨_, rfl, a.s, C2, dx, _, _, rfl, e1, T.cl, T.n1, rfl, a.g, C, dxg, _, _, rfl, S1.sm _ _ g1, TG.cl, TG.n3, rfl, _, rfl, ll, _, _, _, rfl, rfl, SqL.of (S1.sm _ _ r1), atI_nat a2, rw_, rfl, ⟨_, SqL.of (S1.sm _ _ a3)⟩,
          for_list (K := K) (a := rw_) (xs := nl L) (fun j σ H' => ∃ (st : Cherry.St) (v3 : Option V), σ = [some (.ref a.s), some (vi i), some (vi x), v3] ∧ Keep [a.ha, a.ba, a.oa] H H' ∧ SAt C C2 H0 H' a n es p st ∧ runFor n p x (L.drop j) st = some r' ∧ st.o.length + 42 * (L.length - j) + 1700 * k ≤ 90000)
          ⟨st1, _, rfl, k1, S1, by rw [List.drop_zero]; exact hfor, by omega⟩ (fun j σ H' _ ⟨_, _, _, _, S', _⟩ => SqL.of (S'.sm _ _ a3)) ?_ ?_⟩
        · rintro j z σ H2 hz ⟨st2, v3, rfl, k2, S2, hf2, hb2⟩
          obtain ⟨z, hzl, rfl⟩ := nl_get hz
          have hj := (List.getElem?_eq_some_iff.mp hzl)
          rw [List.drop_eq_getElem_cons hj.1, hj.2] at hf2
          simp only [runFor, Option.bind_eq_some_iff] at hf2
          obtain ⟨⟨fl, st3⟩, hrc, hf2⟩ := hf2
          obtain ⟨dx2, e2⟩ := S2.self
          have hlen := reach_len hrc
          have hj1 := hj.1
          refine ⟨_, rfl, a.s, dx2, _, rfl, e2, rfl, _, rfl, _, rfl, H0, a, n, es, p, st2, x, z, (fl, st3), rfl, S2, by omega, hrc, fun H3 k3 S3 => ⟨fl, rfl, ?_⟩⟩
          cases fl with
          | true =>
            simp only [if_true] at hf2
            cases hf2
            simp only at hr1
            cases hr1
            refine ⟨_, rfl, ?_⟩
            exact q H3 (k2.trans k3) S3
          | false =>
            simp only [Bool.false_eq_true, if_false] at hf2
            exact ⟨st3, _, rfl, k2.trans k3, S3, hf2, by omega⟩
        · rintro σ H2 ⟨st2, v3, rfl, k2, S2, hf2, hb2⟩
          rw [nl_len, List.drop_length] at hf2
          simp only [runFor] at hf2
          cases hf2
          simp only at hr1
          refine ⟨_, rfl, _, _, rfl, rfl, i + 1, st2, _, _, rfl, k2, S2, hr1, by omega⟩

def spSInit (C C2 : Addr) : Sp := fun vs H Q _ => ∃ (s dx g pa : Addr) (n : Nat) (es : List (Nat × Nat)) (p : Nat → Option Nat) (r : Nat), vs = [.ref s, .ref g, .ref pa, vi r] ∧ H s = some (.ins C2 dx []) ∧ GraphAt C H g n es ∧ H pa = some (.lst (arr n fun x => ov (p x))) ∧
  ∀ (H' : Hp) (ha ba oa : Addr), Keep [s] H H' → H ha = none → H ba = none → H oa = none → ha ≠ ba → ha ≠ oa → ba ≠ oa → H' s = some (.ins C2 dx (sf g pa ha ba oa)) →
    H' ha = some (.lst (arr n fun x => vi x)) → H' ba = some (.lst (arr n fun _ => .non)) → H' oa = some (.lst (nl [r])) → Q .non H'
abbrev sSInit : Stmt := inClass (top 2) 0
theorem scSInit : FnScope ["self", "graph", "partners", "start", "_"] ["self", "graph", "partners", "start"] (defScope sSInit) := ⟨rfl, rfl, rfl, by decide +kernel, rfl, by decide +kernel, by decide +kernel⟩
theorem ok_sinit {C C2 : Addr} (D : Kdf K mg "Search" "Search.__init__" C2 sSInit ["self", "graph", "partners", "start"]) (T : STx K C2) (TG : GTx K C) (m_list : mg "list" = none) (m_range : mg "range" = none) : Mak P w K mg base 1 "Search" C2 (spSInit C C2) := by
  refine D.mak scSInit (fun vs H Q E h => ?_) (fun f cdv A outer s H vs Q E hr h => ?_)
  · obtain ⟨s, dx, g, pa, n, es, p, r, rfl, _⟩ := h
    rfl
  · obtain ⟨s, dx, g, pa, n, es, p, r, rfl, hs, G, hp, q⟩ := h
    have hn := G.ok.n40
    obtain ⟨dxg, le, ll, g1, _⟩ := G.ex
    have ngs : g ≠ s ∨ g = s := by
      by_cases h : g = s
      · exact .inr h
      · exact .inl h
    have ngs : g ≠ s := by
      intro e
      rw [e, hs] at g1
      cases g1
    refine ⟨_, (pss_cons (ps_fld (pv 0) (pv 1) rfl)
      (pss_cons (ps_fld (pv 0) (pv 2) rfl)
      (pss_cons (ps_fld (pv 0) (pe_listRg rfl (by rfl) m_list (prg_1 (by rfl) m_range (pe_fld (pv 1) rfl))) rfl)
      (pss_cons (ps_fld (pv 0) (pe_lc (own := [("_", 4)]) (g := (gName 4)) (tt := tYes) (by rfl) scSInit.nd (pi_range1 (by rfl) m_range (pa_cons (pe_fld (pv 1) rfl) pa_nil)) (blkOk_by (own := [("_", 4)]) (N := ["self", "graph", "partners", "start", "_"]) (sc := defScope sSInit) (by decide +kernel)) (fun _ _ _ _ _ => (pg_name (i := 4) scSInit.nd rfl (Or.inl rfl))) (fun _ _ _ _ _ => pts_nil) (fun _ _ _ _ _ => pe_non)) rfl)
      (pss_one (ps_fld (pv 0) (pe_lst (pa_cons (pv 3) pa_nil)) rfl)))))), ?_⟩
    refine ⟨_, rfl, _, rfl, s, C2, dx, [], rfl, hs, T.cl, T.n1, (by show 0 < 1000; decide), ?_⟩
    refine ⟨_, rfl, _, rfl, s, C2, dx, _, rfl, upd_same, T.cl, T.n2, (by show 1 < 1000; decide), ?_⟩
    have kA : ∀ o, Keep [s] H (upd (upd H s (.ins C2 dx (putF "graph" (.ref g) []))) s o) := fun o => (Keep.put (by simp)).trans (Keep.put (by simp))
    refine ⟨_, rfl, g, C, dxg, _, _, rfl, kA _ _ _ g1 (by simpa using ngs), TG.cl, TG.n1, rfl, _, rfl, .of_le (by omega) (by omega) (by omega) (by omega), fun ha nha => ?_⟩
    generalize hH1 : upd (upd H s _) s _ = H1 at *
    have k1 : Keep [s] H H1 := by rw [← hH1]; exact kA _
    have s1 : H1 s = some (.ins C2 dx [("graph", .ref g), ("partners", .ref pa)]) := by rw [← hH1, upd_same]; rfl
    have nsa : s ≠ ha := ne_of_none s1 nha
    refine ⟨_, rfl, s, C2, dx, _, rfl, (by rw [upd_ne nsa]; exact s1), T.cl, T.n3, (by show 2 < 1000; decide), ?_⟩
    generalize hH2 : upd (upd H1 ha _) s _ = H2 at *
    have k2 : Keep [s] H1 H2 := by rw [← hH2]; exact (same_keep (same_new nha)).trans (Keep.put (by simp))
    have s2 : H2 s = some (.ins C2 dx [("graph", .ref g), ("partners", .ref pa), ("heads", .ref ha)]) := by rw [← hH2, upd_same]; rfl
    have ha2 : H2 ha = some (.lst (arr n fun x => vi x)) := by
      rw [← hH2, upd_ne nsa.symm, upd_same]
      unfold rgV
      have e : ((n : Int) - 0).toNat = n := by omega
      rw [e]
      refine congrArg (fun l => some (HO.lst l)) (List.map_congr_left fun i _ => ?_)
      show V.int (0 + (i : Int)) = V.int (i : Int)
      rw [Int.zero_add]
    have g2 := k2 _ _ (k1 _ _ g1 (by simpa using ngs)) (by simpa using ngs)
    -- self.before
    refine ⟨_, rfl, g, C, dxg, _, _, rfl, g2, TG.cl, TG.n1, rfl, _, rfl, by omega, by omega, fun ba nba => lc_rng0 (n := n) (fun i H' => H' = upd H2 ba (.lst (arr i fun _ => V.non))) rfl ?_ ?_⟩
    · rintro i H' hi rfl
      refine ⟨rfl, _, upd_same, by rw [arr_len]; exact small_le (m := 40) (by omega) (by decide), ?_⟩
      rw [upd_upd]
      congr 2
      show _ = (List.range (i + 1)).map _
      rw [List.range_succ, List.map_append]
      rfl
    rintro H3 hH3
    have nsb : s ≠ ba := ne_of_none s2 nba
    have nab : ha ≠ ba := ne_of_none ha2 nba
    have k3 : Same H2 H3 := by rw [hH3]; exact same_new nba
    have ba3 : H3 ba = some (.lst (arr n fun _ => .non)) := by rw [hH3, upd_same]
    clear hH3
    refine ⟨_, rfl, s, C2, dx, _, rfl, k3 _ _ s2, T.cl, T.n4, (by show 3 < 1000; decide), ?_⟩
    generalize hH4 : upd H3 s _ = H4 at *
    have k4 : Keep [s] H3 H4 := by rw [← hH4]; exact Keep.put (by simp)
    have s4 : H4 s = some (.ins C2 dx [("graph", .ref g), ("partners", .ref pa), ("heads", .ref ha), ("before", .ref ba)]) := by rw [← hH4, upd_same]; rfl
    have ha4 := k4 _ _ (k3 _ _ ha2) (by simpa using nsa.symm)
    have ba4 := k4 _ _ ba3 (by simpa using nsb.symm)
    -- self.outer = [start]
    refine ⟨_, rfl, (by show 1 ≤ sizeLine; decide), fun oa noa => ?_⟩
    have nso : s ≠ oa := ne_of_none s4 noa
    refine ⟨_, rfl, s, C2, dx, _, rfl, (by rw [upd_ne nso]; exact s4), T.cl, T.n5, (by show 4 < 1000; decide), ?_⟩
    have kF : ∀ o, Keep [s] H4 (upd (upd H4 oa (.lst [vi r])) s o) := fun o => (same_keep (same_new noa)).trans (Keep.put (by simp))
    have kAll : ∀ o, Keep [s] H (upd (upd H4 oa (.lst [vi r])) s o) := fun o => (((k1.trans k2).trans (same_keep k3)).trans k4).trans (kF o)
    have fr : ∀ {G' : Hp} {b : Addr}, Keep [s] H G' → G' b = none → s ≠ b → H b = none := fun {G' b} k h nb => by
      cases e : H b with
      | none => rfl
      | some o => rw [k _ _ e (by simpa using nb.symm)] at h; cases h
    refine q _ ha ba oa (kAll _) (fr k1 nha nsa) (fr (k1.trans k2) nba nsb) (fr (((k1.trans k2).trans (same_keep k3)).trans k4) noa nso) nab (ne_of_none ha4 noa) (ne_of_none ba4 noa) upd_same ?_ ?_ ?_
    · exact kF _ _ _ ha4 (by simpa using nsa.symm)
    · exact kF _ _ _ ba4 (by simpa using nsb.symm)
    · rw [upd_ne nso.symm, upd_same]
      rfl
end
end Cherry
namespace Cherry
open PySem PySem.Spec PyProof.Rows L2
section
variable {P : Program} {w : World} {K : PySem.W.Frag} {mg : Str → Option Value} {base : Heap}
theorem rgC2 {m : Nat} (h : m ≤ 100000) : RgC 0 (2 * (m : Int)) 2 m := by
  have e : Builtin.Range.rangeSize 0 (2 * (m : Int)) 2 = (m : Int) := by
    rw [rangeSize_pos (by decide) (by omega)]; omega
  refine ⟨by decide, by decide, ?_, e⟩
  unfold Builtin.Range.small
  rw [e]
  have fl : ∀ i : Int, -1000000 ≤ i → i ≤ 1000000 → Builtin.Range.rangeFitsLong i = true := fun i h1 h2 => by
    unfold Builtin.Range.rangeFitsLong
    rw [Bool.and_eq_true, decide_eq_true_eq, decide_eq_true_eq]
    omega
  rw [fl 0 (by decide) (by decide), fl (2 * (m : Int)) (by omega) (by omega), fl 2 (by decide) (by decide), fl (m : Int) (by omega) (by omega)]
  rw [if_pos (show (2 : Int) > 0 by decide), fl (2 * (m : Int) + (2 - 1)) (by omega) (by omega)]
  simp
theorem for_enum {a : Addr} {xs : List V} {g : TG} {tb : TS} {D : Ends} {σ : L2.St} {H : Hp} (Pv : Nat → L2.St → Hp → Prop) (h0 : Pv 0 σ H) (hl : ∀ i σ H, i ≤ xs.length → Pv i σ H → SqL K H a xs)
    (hs : ∀ i x σ H T, xs[i]? = some x → Pv i σ H → H T = none → g (.ref T) σ (upd H T (.tup [vi i, x])) fun σ2 H2 => tb { D with nx := Pv (i + 1), ct := Pv (i + 1), bk := D.nx } σ2 H2) (hd : ∀ σ H, Pv xs.length σ H → D.nx σ H) :
    ∃ W : Nat → Nat → L2.St → Hp → Prop, (∃ m, W 0 m σ H) ∧ ∀ i m σ H, W i m σ H →
      ((Ite K a).stop i H ∧ D.nx σ H) ∨ ((Ite K a).go i H ∧ ∃ N : L2.St → Hp → Prop, (∀ σ' H', N σ' H' → ∃ m', m' < m ∧ W (i + 1) m' σ' H') ∧ ∀ x H', (Ite K a).yld i H x H' → g x σ H' fun σ2 H2 => tb { D with nx := N, ct := N, bk := D.nx } σ2 H2) := by
  refine ⟨fun i m σ H => m = xs.length - i ∧ i ≤ xs.length ∧ Pv i σ H, ⟨xs.length, by simp, Nat.zero_le _, h0⟩, ?_⟩
  rintro i m σ H ⟨rfl, hi, p⟩
  have q := hl i σ H hi p
  by_cases hlt : i < xs.length
  · refine .inr ⟨⟨xs, xs[i], q, by simp [hlt]⟩, Pv (i + 1), fun σ' H' p' => ⟨xs.length - (i + 1), by omega, rfl, hlt, p'⟩, fun x H' y => ?_⟩
    obtain ⟨T, z, rfl, hT, rfl, hz⟩ := y
    exact hs i z σ H T (hz xs q) p hT
  · have e : i = xs.length := by omega
    subst e
    exact .inl ⟨⟨xs, q, Nat.le_refl _⟩, hd σ H p⟩

/-! ### augmenting -/
theorem pathL_len {n : Nat} {p b : Nat → Option Nat} : ∀ (k x : Nat) (l : List Nat), pathL n p b k x = some l → l.length ≤ 2 * k ∧ (∃ m, l.length = 2 * m) ∧ ∀ a ∈ l, a < n := by
  intro k
  induction k with
  | zero => intro x l h; cases h
  | succ k ih =>
    intro x l h
    simp only [pathL, Option.bind_eq_some_iff] at h
    obtain ⟨yo, hb, y, rfl, q, hq, h⟩ := h
    obtain ⟨xn, _⟩ := rd_some hb
    obtain ⟨yn, _⟩ := rd_some hq
    cases q with
    | none =>
      cases h
      refine ⟨by simp; omega, ⟨1, rfl⟩, ?_⟩
      intro a ha
      simp only [List.mem_cons, List.not_mem_nil, or_false] at ha
      rcases ha with rfl | rfl
      · exact xn
      · exact yn
    | some z =>
      obtain ⟨l', h1, rfl⟩ := Option.map_eq_some_iff.mp h
      obtain ⟨i1, ⟨m, i2⟩, i3⟩ := ih z l' h1
      refine ⟨by simp; omega, ⟨m + 1, by simp; omega⟩, ?_⟩
      intro a ha
      simp only [List.mem_cons] at ha
      rcases ha with rfl | rfl | ha
      · exact xn
      · exact yn
      · exact i3 a ha
/-- the start of a search behind its __init__ -/
theorem SAt.start {C C2 : Addr} {H H' : Hp} {s dx g pa ha ba oa : Addr} {n : Nat} {es : List (Nat × Nat)} {p : Nat → Option Nat} {r : Nat} (ns : H s = none) (ndx : H dx = none) (G : GraphAt C H g n es) (hp : H pa = some (.lst (arr n fun x => ov (p x))))
    (k : Keep [s] (upd (upd H dx (.own s)) s (.ins C2 dx [])) H') (nha : upd (upd H dx (.own s)) s (.ins C2 dx []) ha = none) (nba : upd (upd H dx (.own s)) s (.ins C2 dx []) ba = none) (noa : upd (upd H dx (.own s)) s (.ins C2 dx []) oa = none)
    (h1 : ha ≠ ba) (h2 : ha ≠ oa) (h3 : ba ≠ oa) (es_ : H' s = some (.ins C2 dx (sf g pa ha ba oa))) (e1 : H' ha = some (.lst (arr n fun x => vi x))) (e2 : H' ba = some (.lst (arr n fun _ => .non))) (e3 : H' oa = some (.lst (nl [r]))) :
    SAt C C2 H H' ⟨s, g, pa, ha, ba, oa⟩ n es p (st0 r) := by
  have fr : ∀ b, upd (upd H dx (.own s)) s (.ins C2 dx []) b = none → H b = none := fun b hb => by
    cases e : H b with
    | none => rfl
    | some o =>
      rw [upd_ne (ne_of_none e ns), upd_ne (ne_of_none e ndx), e] at hb
      cases hb
  exact ⟨made_same ns ndx k, fr _ nha, fr _ nba, fr _ noa, h1, h2, h3, G, hp, ⟨dx, es_⟩, e1, e2, e3⟩
theorem GraphAt.made {C : Addr} {H : Hp} {g x dx : Addr} {n : Nat} {es : List (Nat × Nat)} {o u : HO} (h : GraphAt C H g n es) (hx : H x = none) (hd : H dx = none) : GraphAt C (upd (upd H dx o) x u) g n es := h.same fun b v hb => by
  rw [upd_ne (ne_of_none hb hx), upd_ne (ne_of_none hb hd)]; exact hb
/-- what augmenting hands back -/
def AugV (H H' : Hp) (v : V) : Option (List Nat) → Prop
  | none => v = .non
  | some l => ∃ a, v = .ref a ∧ H a = none ∧ H' a = some (.lst (nl l))
def spAug (C : Addr) : Sp := fun vs H Q _ => ∃ (g pa : Addr) (n : Nat) (es : List (Nat × Nat)) (p : Nat → Option Nat) (r : Nat) (res : Option (List Nat)), vs = [.ref g, .ref pa, vi r] ∧ GraphAt C H g n es ∧ H pa = some (.lst (arr n fun x => ov (p x))) ∧
  augmenting n (lks n es) p r = some res ∧ ∀ (v : V) (H' : Hp), Same H H' → AugV H H' v res → Q v H'
abbrev sAug : Stmt := top 3
theorem scAug : FnScope ["graph", "partners", "start", "search", "node", "path", "other"] ["graph", "partners", "start"] (defScope sAug) := ⟨rfl, rfl, rfl, by decide +kernel, rfl, by decide +kernel, by decide +kernel⟩
theorem ok_aug {C C2 : Addr} (D : Dfn K mg "augmenting" sAug ["graph", "partners", "start"]) (T : STx K C2) (c_Search : Mak P w K mg base 1 "Search" C2 (spSInit C C2)) (c_run : Met P w K mg base 5 C2 "run" (spRun C C2)) : Cal P w K mg base 6 "augmenting" (spAug C) := by
  refine D.cal scAug (fun vs H Q E h => ?_) (fun f cdv A outer s H vs Q E hr h => ?_)
  · obtain ⟨g, pa, n, es, p, r, res, rfl, _⟩ := h
    rfl
  · obtain ⟨g, pa, n, es, p, r, res, rfl, G, hp, ha, q⟩ := h
    have hn := G.ok.n40
    simp only [augmenting, run, Option.bind_eq_some_iff] at ha
    obtain ⟨rr, hrun, ha⟩ := ha
    refine ⟨_, (pss_cons (ps_set (i := 3) scAug.nd rfl (Or.inl rfl) (qe_mk c_Search hr (by decide) (by rfl) (pa_cons (pv 0) (pa_cons (pv 1) (pa_cons (pv 2) pa_nil)))))
      (pss_cons (ps_set (i := 4) scAug.nd rfl (Or.inl rfl) (qe_mt0 c_run hr (by decide) (pv 3)))
      (pss_cons (ps_if (pt_cmpR op_isN (pv 4) pe_non (nomark _))
        (pss_one (ps_ret pe_non))
        pss_nil)
      (pss_cons (ps_set (i := 5) scAug.nd rfl (Or.inl rfl) (pe_lst pa_nil))
      (pss_cons (ps_while PassesOwn.never (pt_cmpR op_notN (pv 4) pe_non (nomark _))
        (pss_cons (ps_set (i := 6) scAug.nd rfl (Or.inl rfl) (pe_ix ix_list (pe_fld (pv 3) rfl) (pv 4) (fun _ _ => rfl)))
        (pss_cons (ps_expr (pe_bm PySem.F.plainAttrs_list PySem.F.slot_list_extend PySem.F.type_list_extend mt_extend (pv 5) (pa_cons (pe_lst (pa_cons (pv 4) (pa_cons (pv 6) pa_nil))) pa_nil)))
        (pss_one (ps_set (i := 4) scAug.nd rfl (Or.inl rfl) (pe_ix ix_list (pv 1) (pv 6) (fun _ _ => rfl)))))))
      (pss_one (ps_ret (pv 5)))))))), ?_⟩
    refine ⟨_, rfl, _, rfl, _, rfl, fun s1 dx ns ndx nex => ⟨s1, dx, g, pa, n, es, p, r, rfl, upd_same, G.made ns ndx, (by rw [upd_ne (ne_of_none hp ns), upd_ne (ne_of_none hp ndx)]; exact hp), fun H1 ha ba oa k1 nha nba noa h1 h2 h3 q1 q2 q3 q4 => ⟨rfl, ?_⟩⟩⟩
    have S1 : SAt C C2 H H1 ⟨s1, g, pa, ha, ba, oa⟩ n es p (st0 r) := .start ns ndx G hp k1 nha nba noa h1 h2 h3 q1 q2 q3 q4
    refine ⟨_, rfl, s1, dx, _, rfl, q1, rfl, H, _, n, es, p, st0 r, rr, rfl, S1, Nat.le_refl _, hrun, fun H2 k2 S2 => ?_⟩
    obtain ⟨t, st⟩ := rr
    refine ⟨_, rfl, rfl, ?_⟩
    cases t with
    | none =>
      cases ha
      exact ⟨true, rfl, q _ H2 S2.sm rfl⟩
    | some t =>
      obtain ⟨l, hl, rfl⟩ := Option.map_eq_some_iff.mp ha
      refine ⟨false, rfl, ?_⟩
      obtain ⟨pl1, _, _⟩ := pathL_len _ _ _ hl
      refine ⟨Nat.zero_le _, fun ra hra => ?_⟩
      have s3 : Same H2 (upd H2 ra (.lst [])) := same_new hra
      have nH : H ra = none := S2.sm.free hra
      refine ⟨fun k σ H' => ∃ (nd : Option Nat) (acc : List Nat) (v6 : Option V), σ = [some (.ref g), some (.ref pa), some (vi r), some (.ref s1), some (ov nd), some (.ref ra), v6] ∧ Same H2 H' ∧ H' ra = some (.lst (nl acc)) ∧
          ((nd = none ∧ acc = l) ∨ ∃ x rest, nd = some x ∧ pathL n p st.b k x = some rest ∧ acc ++ rest = l), ⟨n + 1, some t, [], _, rfl, s3, upd_same, .inr ⟨t, l, rfl, hl, rfl⟩⟩, ?_⟩
      rintro k σ H3 ⟨nd, acc, v6, rfl, sm, hra3, alt⟩
      refine ⟨_, rfl, rfl, ?_⟩
      rcases alt with ⟨rfl, rfl⟩ | ⟨x, rest, rfl, hpath, hcat⟩
      · refine ⟨false, rfl, _, rfl, ?_⟩
        exact q _ H3 (S2.sm.trans sm) ⟨ra, rfl, nH, hra3⟩
      · cases k with
        | zero => cases hpath
        | succ k =>
          simp only [pathL, Option.bind_eq_some_iff] at hpath
          obtain ⟨yo, hb, y, rfl, pz, hpz, hpath⟩ := hpath
          obtain ⟨xn, eb⟩ := rd_some hb
          obtain ⟨yn, ep⟩ := rd_some hpz
          have S3 := S2.same sm
          obtain ⟨dx3, e3⟩ := S3.self
          refine ⟨true, rfl, _, fun σ' H' h => ⟨k, Nat.lt_succ_self k, h⟩, ?_⟩
          refine ⟨_, rfl, s1, C2, dx3, _, _, rfl, e3, T.cl, T.n4, rfl, _, rfl, ba, _, _, _, rfl, rfl, SqL.of S3.bb, arr_atv xn (by rw [eb]), ?_⟩
          refine ⟨_, rfl, .inl ⟨rfl, _, SqL.of hra3⟩, _, rfl, _, rfl, (by show 2 ≤ sizeLine; decide), fun u hu => ?_⟩
          have s4 : Same H3 (upd H3 u (.lst [vi x, ov (some y)])) := same_new hu
          have hacc : acc.length ≤ 2 * (n + 1) := by
            have := congrArg List.length hcat
            rw [List.length_append] at this
            omega
          refine ⟨ra, u, _, _, rfl, rfl, s4 _ _ hra3, upd_same, by rw [nl_len]; exact Nat.le_of_lt (small_le (m := 100) (by simp; omega) (by decide)), ?_⟩
          generalize hH5 : upd (upd H3 u _) ra _ = H5
          have s5 : Same H2 H5 := by
            rw [← hH5]
            exact keepS (sm.trans s4) (Keep.put (S := [ra]) (by simp)) (by simpa using hra)
          have hra5 : H5 ra = some (.lst (nl (acc ++ [x, y]))) := by
            rw [← hH5, upd_same, nl_app]; rfl
          refine ⟨_, rfl, _, rfl, pa, _, _, _, rfl, rfl, SqL.of (s5 _ _ (S2.sm _ _ hp)), arr_atv yn (by rw [ep]), ?_⟩
          refine ⟨pz, acc ++ [x, y], _, rfl, s5, hra5, ?_⟩
          cases pz with
          | none =>
            cases hpath
            exact .inl ⟨rfl, hcat⟩
          | some z =>
            obtain ⟨rest', h1, rfl⟩ := Option.map_eq_some_iff.mp hpath
            exact .inr ⟨z, rest', rfl, h1, by rw [← hcat]; simp⟩
end
end Cherry
namespace Cherry
open PySem PySem.Spec PyProof.Rows L2
theorem flip_app : ∀ (A B : List Nat) (p : Nat → Option Nat) (m : Nat), A.length = 2 * m → flip p (A ++ B) = flip (flip p A) B
  | [], B, p, m, _ => by cases B with
    | nil => rfl
    | cons a B => rfl
  | [x], B, p, m, h => by simp at h; omega
  | a :: c :: A, B, p, m, h => by
    show flip (fu (fu p a (some c)) c (some a)) (A ++ B) = flip (flip (fu (fu p a (some c)) c (some a)) A) B
    exact flip_app A B _ (m - 1) (by simp at h; omega)
theorem flip_take {l : List Nat} {p : Nat → Option Nat} {i m : Nat} (hl : l.length = 2 * m) (hi : i < m) :
    ∃ a c, l[2 * i]? = some a ∧ l[2 * i + 1]? = some c ∧ flip p (l.take (2 * (i + 1))) = fu (fu (flip p (l.take (2 * i))) a (some c)) c (some a) := by
  have h1 : 2 * i < l.length := by omega
  have h2 : 2 * i + 1 < l.length := by omega
  refine ⟨l[2 * i], l[2 * i + 1], List.getElem?_eq_getElem h1, List.getElem?_eq_getElem h2, ?_⟩
  have e : l.take (2 * (i + 1)) = l.take (2 * i) ++ [l[2 * i], l[2 * i + 1]] := by
    have e1 : 2 * (i + 1) = 2 * i + 1 + 1 := by omega
    rw [e1, List.take_add_one, List.take_add_one, List.getElem?_eq_getElem h1, List.getElem?_eq_getElem h2, List.append_assoc]
    rfl
  rw [e, flip_app _ _ _ i (by rw [List.length_take]; omega)]
  rfl
section
variable {P : Program} {w : World} {K : PySem.W.Frag} {mg : Str → Option Value} {base : Heap}
def spGreat (C : Addr) : Sp := fun vs H Q _ => ∃ (g : Addr) (n : Nat) (es : List (Nat × Nat)) (p : Nat → Option Nat), vs = [.ref g] ∧ GraphAt C H g n es ∧ Cherry.greatest n (lks n es) = some p ∧
  ∀ (a : Addr) (H' : Hp), Same H H' → H a = none → H' a = some (.lst (arr n fun x => ov (p x))) → Q (.ref a) H'
abbrev sGreat : Stmt := top 4
theorem scGreat : FnScope ["graph", "partners", "node", "path", "at", "_"] ["graph"] (defScope sGreat) := ⟨rfl, rfl, rfl, by decide +kernel, rfl, by decide +kernel, by decide +kernel⟩
theorem ok_great {C : Addr} (D : Dfn K mg "greatest" sGreat ["graph"]) (TG : GTx K C) (m_range : mg "range" = none) (m_len : mg "len" = none) (c_augmenting : Cal P w K mg base 6 "augmenting" (spAug C)) : Cal P w K mg base 7 "greatest" (spGreat C) := by
  refine D.cal scGreat (fun vs H Q E h => ?_) (fun f cdv A outer s H vs Q E hr h => ?_)
  · obtain ⟨g, n, es, p, rfl, _⟩ := h
    rfl
  · obtain ⟨g, n, es, p, rfl, G, hg, q⟩ := h
    have hn := G.ok.n40
    obtain ⟨dxg, le, ll, g1, _⟩ := G.ex
    refine ⟨_, (pss_cons (ps_setLc (i := 1) (own := [("_", 5)]) (g := (gName 5)) (tt := tYes) (by rfl) scGreat.nd rfl rfl (sw_true rfl rfl rfl (by decide +kernel)) (pi_range1 (by rfl) m_range (pa_cons (pe_fld (pv 0) rfl) pa_nil)) (blkOk_by (own := [("_", 5)]) (N := ["graph", "partners", "node", "path", "at", "_"]) (sc := defScope sGreat) (by decide +kernel)) (fun _ _ _ _ _ => (pg_name (i := 5) scGreat.nd rfl (Or.inl rfl))) (fun _ _ _ _ _ => pts_nil) (fun _ _ _ _ _ => pe_non))
      (pss_cons (ps_for PassesOwn.never rfl (pi_range1 (by rfl) m_range (pa_cons (pe_fld (pv 0) rfl) pa_nil)) (pg_name (i := 2) scGreat.nd rfl (Or.inl rfl))
        (pss_one (ps_if (pt_cmpR op_isN (pe_ix ix_list (pv 1) (pv 2) (fun _ _ => rfl)) pe_non (nomark _))
          (pss_cons (ps_set (i := 3) scGreat.nd rfl (Or.inl rfl) (qe_c c_augmenting hr (by decide) (by rfl) (pa_cons (pv 0) (pa_cons (pv 1) (pa_cons (pv 2) pa_nil)))))
          (pss_one (ps_if (pt_cmpR op_notN (pv 3) pe_non (nomark _))
            (pss_one (ps_for PassesOwn.never rfl (pi_range3 (by rfl) m_range (pa_cons pe_int (pa_cons (pe_callB call_len_seq (by rfl) m_len PySem.boot_len (pa_cons (pv 3) pa_nil)) (pa_cons pe_int pa_nil)))) (pg_name (i := 4) scGreat.nd rfl (Or.inl rfl))
              (pss_cons (ps_asg (pe_ix ix_list (pv 3) (pe_op op_add (pv 4) pe_int) (fun _ _ => rfl)) (pg_sub (pv 1) (pe_ix ix_list (pv 3) (pv 4) (fun _ _ => rfl)) set_list))
              (pss_one (ps_asg (pe_ix ix_list (pv 3) (pv 4) (fun _ _ => rfl)) (pg_sub (pv 1) (pe_ix ix_list (pv 3) (pe_op op_add (pv 4) pe_int) (fun _ _ => rfl)) set_list))))))
            pss_nil)))
          pss_nil)))
      (pss_one (ps_ret (pv 1))))), ?_⟩
    refine ⟨_, rfl, g, C, dxg, _, _, rfl, g1, TG.cl, TG.n1, rfl, _, rfl, by omega, by omega, fun pa npa => lc_rng0 (n := n) (fun i H' => H' = upd H pa (.lst (arr i fun _ => V.non))) rfl ?_ ?_⟩
    · rintro i H' hi rfl
      refine ⟨rfl, _, upd_same, by rw [arr_len]; exact small_le (m := 40) (by omega) (by decide), ?_⟩
      rw [upd_upd]
      congr 2
      show _ = (List.range (i + 1)).map _
      rw [List.range_succ, List.map_append]
      rfl
    rintro H1 hH1
    have s1 : Same H H1 := by rw [hH1]; exact same_new npa
    have pa1 : H1 pa = some (.lst (arr n fun _ => V.non)) := by rw [hH1, upd_same]
    clear hH1
    refine ⟨_, rfl, g, C, dxg, _, _, rfl, s1 _ _ g1, TG.cl, TG.n1, rfl, _, rfl, by omega, by omega, for_rng0 (n := n) (fun i σ H' => ∃ (pi : Nat → Option Nat) (v2 v3 v4 : Option V), σ = [some (.ref g), some (.ref pa), v2, v3, v4, none] ∧ Same H H' ∧ H' pa = some (.lst (arr n fun x => ov (pi x))) ∧
        ((List.range n).drop i).foldlM (greatStep n (lks n es)) pi = some p) ⟨fun _ => none, _, _, _, rfl, s1, pa1, by rw [List.drop_zero]; exact hg⟩ ?_ ?_⟩
    · rintro i σ H2 hi ⟨pi, v2, v3, v4, rfl, s2, pa2, hf⟩
      rw [List.drop_eq_getElem_cons (by rw [List.length_range]; exact hi), List.getElem_range] at hf
      simp only [List.foldlM_cons, Option.bind_eq_bind, Option.bind_eq_some_iff] at hf
      obtain ⟨pi', hstep, hf⟩ := hf
      refine ⟨_, rfl, _, rfl, pa, _, _, _, rfl, rfl, SqL.of pa2, arr_at hi, rfl, ?_⟩
      cases hpi : pi i with
      | some y =>
        simp only [greatStep, hpi] at hstep
        cases hstep
        exact ⟨false, rfl, pi, _, _, _, rfl, s2, pa2, hf⟩
      | none =>
        simp only [greatStep, hpi] at hstep
        obtain ⟨res, haug, hstep⟩ := Option.map_eq_some_iff.mp hstep
        refine ⟨true, rfl, ?_⟩
        refine ⟨_, rfl, _, rfl, _, rfl, g, pa, n, es, pi, i, res, rfl, G.same s2, pa2, haug, fun v H3 s3 hv => ?_⟩
        have pa3 := s3 _ _ pa2
        cases res with
        | none =>
          have hv : v = .non := hv
          subst hv
          simp only at hstep
          subst hstep
          exact ⟨_, rfl, rfl, false, rfl, pi, _, _, _, rfl, s2.trans s3, pa3, hf⟩
        | some l =>
          obtain ⟨la, rfl, nla, hla⟩ := hv
          simp only at hstep
          obtain ⟨len1, ⟨m, hm⟩, hlt⟩ : l.length ≤ 2 * (n + 1) ∧ (∃ m, l.length = 2 * m) ∧ ∀ a ∈ l, a < n := by
            simp only [augmenting, Option.bind_eq_some_iff] at haug
            obtain ⟨rr, _, haug⟩ := haug
            split at haug
            · cases haug
            · obtain ⟨l', h1, h2⟩ := Option.map_eq_some_iff.mp haug
              cases h2
              exact pathL_len _ _ _ h1
          refine ⟨_, rfl, rfl, true, rfl, ?_⟩
          have nlp : la ≠ pa := (ne_of_none pa2 nla).symm
          refine ⟨_, rfl, la, _, rfl, .inl (SqL.of hla), 0, 2 * (m : Int), 2, m, by rw [nl_len, hm]; show [V.int 0, V.int ((2 * m : Nat) : Int), V.int 2] = _; congr 2, rgC2 (by omega), for_rangeC (lo := 0) (c := 2) (n := m)
            (fun j σ H' => ∃ v4 : Option V, σ = [some (.ref g), some (.ref pa), some (vi i), some (.ref la), v4, none] ∧ Same H H' ∧ H' pa = some (.lst (arr n fun x => ov (flip pi (l.take (2 * j)) x))) ∧ H' la = some (.lst (nl l)))
            ⟨_, rfl, s2.trans s3, by rw [Nat.mul_zero, List.take_zero]; exact pa3, hla⟩ ?_ ?_⟩
          · rintro j σ H4 hj ⟨v4, rfl, s4, pa4, la4⟩
            obtain ⟨a, c, ea, ec, hfl⟩ := flip_take (p := pi) hm hj
            have an := hlt a (List.mem_of_getElem? ea)
            have cn := hlt c (List.mem_of_getElem? ec)
            have ra : (nl l)[2 * j]? = some (vi a) := by rw [List.getElem?_map, ea]; rfl
            have rc : (nl l)[2 * j + 1]? = some (vi c) := by rw [List.getElem?_map, ec]; rfl
            have ia : (0 : Int) + (j : Int) * 2 = ((2 * j : Nat) : Int) := by omega
            have ic : (0 : Int) + (j : Int) * 2 + 1 = ((2 * j + 1 : Nat) : Int) := by omega
            refine ⟨_, rfl, _, rfl, _, _, rfl, rfl, la, _, _, _, rfl, rfl, SqL.of la4, at_of ic rc, _, rfl, _, rfl, _, rfl, la, _, _, _, rfl, rfl, SqL.of la4, at_of ia ra, pa, _, _, a, rfl, rfl, pa4, (by rw [arr_len]; exact ixN_nat an), ?_⟩
            generalize hH5 : upd H4 pa _ = H5
            have k5 : Keep [pa] H4 H5 := by rw [← hH5]; exact Keep.put (by simp)
            have pa5 : H5 pa = some (.lst (arr n fun x => ov (fu (flip pi (l.take (2 * j))) a (some c) x))) := by
              rw [← hH5, upd_same]
              exact congrArg (fun l => some (HO.lst l)) (fu_arr (g := ov) (x := some c))
            have la5 := k5 _ _ la4 (by simpa using nlp)
            refine ⟨_, rfl, _, rfl, la, _, _, _, rfl, rfl, SqL.of la5, at_of ia ra, _, rfl, _, rfl, _, rfl, _, _, rfl, rfl, la, _, _, _, rfl, rfl, SqL.of la5, at_of ic rc, pa, _, _, c, rfl, rfl, pa5, (by rw [arr_len]; exact ixN_nat cn), ?_⟩
            generalize hH6 : upd H5 pa _ = H6
            have k6 : Keep [pa] H5 H6 := by rw [← hH6]; exact Keep.put (by simp)
            refine ⟨_, rfl, ?_, ?_, k6 _ _ la5 (by simpa using nlp)⟩
            · exact keepS s4 (k5.trans k6) (by simpa using npa)
            · rw [hfl, ← hH6, upd_same]
              exact congrArg (fun l => some (HO.lst l)) (fu_arr (g := ov) (x := some a))
          · rintro σ H4 ⟨v4, rfl, s4, pa4, la4⟩
            have e : l.take (2 * m) = l := by rw [← hm, List.take_length]
            rw [e, hstep] at pa4
            exact ⟨pi', _, _, _, rfl, s4, pa4, hf⟩
    · rintro σ H2 ⟨pi, v2, v3, v4, rfl, s2, pa2, hf⟩
      have e : (List.range n).drop n = [] := by rw [List.drop_eq_nil_iff, List.length_range]; exact Nat.le_refl _
      rw [e] at hf
      cases hf
      exact ⟨_, rfl, q pa H2 s2 npa pa2⟩

def spEdgesOf : Sp := fun vs H Q _ => ∃ (pa : Addr) (n : Nat) (p : Nat → Option Nat), vs = [.ref pa] ∧ n ≤ 40 ∧ H pa = some (.lst (arr n fun x => ov (p x))) ∧
  ∀ (a : Addr) (H' : Hp), Same H H' → H a = none → PL H' a (edgesOf n p) → Q (.ref a) H'
abbrev sEdgesOf : Stmt := top 22
theorem scEdgesOf : FnScope ["partners", "found", "node", "other"] ["partners"] (defScope sEdgesOf) := ⟨rfl, rfl, rfl, by decide +kernel, rfl, by decide +kernel, by decide +kernel⟩
theorem edgesOf_succ (i : Nat) (p : Nat → Option Nat) : edgesOf (i + 1) p = edgesOf i p ++ (match p i with | some y => if i < y then [(i, y)] else [] | none => []) := by
  unfold edgesOf
  rw [List.range_succ, List.filterMap_append]
  congr 1
  cases h : p i with
  | none => simp [h]
  | some y =>
    by_cases hlt : i < y
    · simp [h, hlt]
    · simp [h, hlt]
theorem edgesOf_len (i : Nat) (p : Nat → Option Nat) : (edgesOf i p).length ≤ i := by
  unfold edgesOf
  refine Nat.le_trans (List.length_filterMap_le _ _) ?_
  rw [List.length_range]; exact Nat.le_refl _
theorem ok_edgesof (D : Dfn K mg "edges_of" sEdgesOf ["partners"]) (m_enumerate : mg "enumerate" = none) : Cal P w K mg base 1 "edges_of" spEdgesOf := by
  refine D.cal scEdgesOf (fun vs H Q E h => ?_) (fun f cdv A outer s H vs Q E hr h => ?_)
  · obtain ⟨pa, n, p, rfl, _⟩ := h
    rfl
  · obtain ⟨pa, n, p, rfl, hn, hp, q⟩ := h
    refine ⟨_, (pss_cons (ps_set (i := 1) scEdgesOf.nd rfl (Or.inl rfl) (pe_lst pa_nil))
      (pss_cons (ps_for PassesOwn.never rfl (pi_enum (by rfl) m_enumerate (pa_cons (pv 0) pa_nil)) (pg_tup rfl (pgs_cons (pg_name (i := 2) scEdgesOf.nd rfl (Or.inl rfl)) (pgs_cons (pg_name (i := 3) scEdgesOf.nd rfl (Or.inl rfl)) pgs_nil)))
        (pss_one (ps_if (PW.pt (pw_and (pt_cmpR op_notN (pv 3) pe_non (nomark _)) (pw_and1 (pt_cmpR op_lt (pv 2) (pv 3) (nomark _)))))
          (pss_one (ps_expr (pe_bm PySem.F.plainAttrs_list PySem.F.slot_list_append PySem.F.type_list_append mt_append (pv 1) (pa_cons (pe_tup (pa_cons (pv 2) (pa_cons (pv 3) pa_nil))) pa_nil))))
          pss_nil)))
      (pss_one (ps_ret (pv 1))))), ?_⟩
    refine ⟨Nat.zero_le _, fun l nl0 => ?_⟩
    have s0 : Same H (upd H l (.lst [])) := same_new nl0
    refine ⟨_, rfl, pa, _, rfl, SqL.of (s0 _ _ hp), for_enum (K := K) (a := pa) (xs := arr n fun x => ov (p x)) (fun i σ H' => ∃ v2 v3 : Option V, σ = [some (.ref pa), some (.ref l), v2, v3] ∧ Same H H' ∧ PL H' l (edgesOf i p)) ⟨_, _, rfl, s0, [], upd_same, .nil⟩
      (fun i σ H' _ ⟨_, _, _, s', _⟩ => SqL.of (s' _ _ hp)) ?_ ?_⟩
    · rintro i x σ H2 T hx ⟨v2, v3, rfl, s2, pl⟩ hT
      have hi : i < n := by
        have := (List.getElem?_eq_some_iff.mp hx).1
        rw [arr_len] at this
        exact this
      rw [arr_get hi] at hx
      cases hx
      have s3 : Same H2 (upd H2 T (.tup [vi i, ov (p i)])) := same_new hT
      have hlen := edgesOf_len i p
      refine ⟨T, _, rfl, SqT.of upd_same, rfl, _, _, rfl, _, _, rfl, rfl, ?_⟩
      refine ⟨_, rfl, rfl, ?_⟩
      cases hpi : p i with
      | none => exact ⟨false, rfl, _, _, rfl, s2.trans (by rw [hpi] at s3; exact s3), by rw [edgesOf_succ, hpi, List.append_nil]; rw [hpi] at s3; exact pl.same s3⟩
      | some y =>
        rw [hpi] at s3
        refine ⟨true, rfl, _, rfl, _, rfl, _, _, rfl, rfl, ?_⟩
        by_cases hlt : i < y
        · refine ⟨true, bT (by omega), ?_⟩
          have pl3 := pl.same s3
          obtain ⟨ts, e1, e2⟩ := pl3.ex
          refine ⟨_, rfl, .inl ⟨rfl, _, SqL.of e1⟩, _, rfl, _, rfl, (by show 2 ≤ sizeLine; decide), fun t ht => ?_⟩
          have s4 : Same (upd H2 T (.tup [vi i, ov (some y)])) (upd (upd H2 T (.tup [vi i, ov (some y)])) t (.tup [vi i, ov (some y)])) := same_new ht
          refine (pl3.same s4).add (e := (i, y)) upd_same (by omega) fun pl5 => ⟨_, _, rfl, ?_, ?_⟩
          · exact keepS ((s2.trans s3).trans s4) (Keep.put (S := [l]) (by simp)) (by simpa using nl0)
          · rw [edgesOf_succ, hpi]
            simp only [hlt, if_true]
            exact pl5
        · refine ⟨false, bF (by omega), _, _, rfl, s2.trans s3, ?_⟩
          rw [edgesOf_succ, hpi]
          simp only [hlt, if_false, List.append_nil]
          exact pl.same s3
    · rintro σ H2 ⟨v2, v3, rfl, s2, pl⟩
      rw [arr_len] at pl
      exact ⟨_, rfl, q l H2 s2 nl0 pl⟩
end
end Cherry
namespace Cherry
open PySem PySem.Spec PyProof.Rows L2
section
variable {P : Program} {w : World} {K : PySem.W.Frag} {mg : Str → Option Value} {base : Heap}
def spLeft (C : Addr) : Sp := fun vs H Q _ => ∃ (g pa : Addr) (n : Nat) (es : List (Nat × Nat)) (p : Nat → Option Nat) (left : List Nat), vs = [.ref g, .ref pa] ∧ GraphAt C H g n es ∧ H pa = some (.lst (arr n fun x => ov (p x))) ∧
  Mt (lks n es) p ∧ (∀ v, v < n → p v = none → Block (lks n es) p v) ∧ leftOut n (lks n es) p = some left ∧
  ∀ (a : Addr) (H' : Hp), Same H H' → H a = none → H' a = some (.lst (nl left)) → Q (.ref a) H'
abbrev sLeft : Stmt := top 5
theorem scLeft : FnScope ["graph", "partners", "found", "node", "search", "other"] ["graph", "partners"] (defScope sLeft) := ⟨rfl, rfl, rfl, by decide +kernel, rfl, by decide +kernel, by decide +kernel⟩
theorem ok_left {C C2 : Addr} (D : Dfn K mg "left_out" sLeft ["graph", "partners"]) (T : STx K C2) (TG : GTx K C) (m_range : mg "range" = none) (m_sorted : mg "sorted" = none) (c_Search : Mak P w K mg base 1 "Search" C2 (spSInit C C2)) (c_run : Met P w K mg base 5 C2 "run" (spRun C C2)) :
    Cal P w K mg base 6 "left_out" (spLeft C) := by
  refine D.cal scLeft (fun vs H Q E h => ?_) (fun f cdv A outer s H vs Q E hr h => ?_)
  · obtain ⟨g, pa, n, es, p, left, rfl, _⟩ := h
    rfl
  · obtain ⟨g, pa, n, es, p, left, rfl, G, hp, M, hB, hl, q⟩ := h
    have hn := G.ok.n40
    obtain ⟨dxg, le, ll, g1, _⟩ := G.ex
    obtain ⟨fF, hfold, rfl⟩ := Option.map_eq_some_iff.mp hl
    refine ⟨_, (pss_cons (ps_set (i := 2) scLeft.nd rfl (Or.inr rfl) (pe_lst pa_nil))
      (pss_cons (ps_for PassesOwn.never rfl (pi_range1 (by rfl) m_range (pa_cons (pe_fld (pv 0) rfl) pa_nil)) (pg_name (i := 3) scLeft.nd rfl (Or.inl rfl))
        (pss_one (ps_if (pt_cmpR op_isN (pe_ix ix_list (pv 1) (pv 3) (fun _ _ => rfl)) pe_non (nomark _))
          (pss_cons (ps_set (i := 4) scLeft.nd rfl (Or.inl rfl) (qe_mk c_Search hr (by decide) (by rfl) (pa_cons (pv 0) (pa_cons (pv 1) (pa_cons (pv 3) pa_nil)))))
          (pss_cons (ps_expr (qe_mt0 c_run hr (by decide) (pv 4)))
          (pss_one (ps_expr (pe_bm PySem.F.plainAttrs_list PySem.F.slot_list_extend PySem.F.type_list_extend mt_extend (pv 2) (pa_cons (pe_lc (own := [("other", 5)]) (g := (gName 5)) (by rfl) scLeft.nd (pi_list (pe_fld (pv 4) rfl)) (blkOk_by (own := [("other", 5)]) (N := ["graph", "partners", "found", "node", "search", "other"]) (sc := defScope sLeft) (by decide +kernel)) (fun _ _ _ _ _ => (pg_name (i := 5) scLeft.nd rfl (Or.inl rfl))) (fun _ _ _ _ _ => (pts_one (pt_cmpR (notInSk K rfl) (pv 5) (pv 2) rfl))) (fun _ _ _ _ _ => (pv 5))) pa_nil))))))
          pss_nil)))
      (pss_one (ps_ret (pe_callB cr_sortedI (by rfl) m_sorted (by decide +kernel) (pa_cons (pv 2) pa_nil)))))), ?_⟩
    refine ⟨Nat.zero_le _, fun fa nfa => ?_⟩
    have s0 : Same H (upd H fa (.lst [])) := same_new nfa
    refine ⟨_, rfl, g, C, dxg, _, _, rfl, s0 _ _ g1, TG.cl, TG.n1, rfl, _, rfl, by omega, by omega, for_rng0 (n := n) (fun i σ H' => ∃ (f : List Nat) (v3 v4 v5 : Option V), σ = [some (.ref g), some (.ref pa), some (.ref fa), v3, v4, v5] ∧ Same H H' ∧ H' fa = some (.lst (nl f)) ∧
        ((List.range n).drop i).foldlM (leftStep n (lks n es) p) f = some fF ∧ f.Nodup ∧ ∀ x ∈ f, x < n) ⟨[], _, _, _, rfl, s0, upd_same, by rw [List.drop_zero]; exact hfold, List.nodup_nil, by simp⟩ ?_ ?_⟩
    · rintro i σ H1 hi ⟨f, v3, v4, v5, rfl, s1, fa1, hf, fnd, flt⟩
      rw [List.drop_eq_getElem_cons (by rw [List.length_range]; exact hi), List.getElem_range] at hf
      simp only [List.foldlM_cons, Option.bind_eq_bind, Option.bind_eq_some_iff] at hf
      obtain ⟨f', hstep, hf⟩ := hf
      have pa1 := s1 _ _ hp
      refine ⟨_, rfl, _, rfl, pa, _, _, _, rfl, rfl, SqL.of pa1, arr_at hi, rfl, ?_⟩
      cases hpi : p i with
      | some y =>
        simp only [leftStep, hpi] at hstep
        cases hstep
        exact ⟨false, rfl, f, _, _, _, rfl, s1, fa1, hf, fnd, flt⟩
      | none =>
        obtain ⟨st', hrun, hD⟩ := run_done G.ok.gr M hB hi hpi
        obtain ⟨d, I⟩ := hD.inv
        simp only [leftStep, hpi, hrun, Option.map_some] at hstep
        have hstep := Option.some.inj hstep
        refine ⟨true, rfl, ?_⟩
        have G1 := G.same s1
        refine ⟨_, rfl, _, rfl, _, rfl, fun sa dx ns ndx nex => ⟨sa, dx, g, pa, n, es, p, i, rfl, upd_same, G1.made ns ndx, (by rw [upd_ne (ne_of_none pa1 ns), upd_ne (ne_of_none pa1 ndx)]; exact pa1), fun H2 ha ba oa k2 nha nba noa h1 h2 h3 q1 q2 q3 q4 => ⟨rfl, ?_⟩⟩⟩
        have S2 : SAt C C2 H1 H2 ⟨sa, g, pa, ha, ba, oa⟩ n es p (st0 i) := .start ns ndx G1 pa1 k2 nha nba noa h1 h2 h3 q1 q2 q3 q4
        refine ⟨_, rfl, sa, dx, _, rfl, q1, rfl, H1, _, n, es, p, st0 i, (none, st'), rfl, S2, Nat.le_refl _, hrun, fun H3 k3 S3 => ?_⟩
        obtain ⟨dx3, e3⟩ := S3.self
        have fa3 := S3.sm _ _ fa1
        -- found.extend([other for other in search.outer if other not in found])
        refine ⟨_, rfl, .inl ⟨rfl, _, SqL.of fa3⟩, _, rfl, sa, C2, dx3, _, _, rfl, e3, T.cl, T.n5, rfl, oa, rfl, ⟨_, SqL.of S3.oo⟩, fun D2 hD2 => lc_list (K := K) (a := oa) (xs := nl st'.o) (fun j H' => Same H3 H' ∧ H' D2 = some (.lst (nl ((st'.o.take j).filter fun y => decide (y ∉ f)))))
          ⟨same_new hD2, by rw [upd_same]; rfl⟩ (fun j H' _ h => SqL.of (h.1 _ _ S3.oo)) ?_ ?_⟩
        · rintro j x H4 hx ⟨s4, d4⟩
          obtain ⟨x, hxl, rfl⟩ := nl_get hx
          have hj : j < st'.o.length := (List.getElem?_eq_some_iff.mp hxl).1
          have htk : st'.o.take (j + 1) = st'.o.take j ++ [x] := by rw [List.take_add_one, hxl]; rfl
          have hol := len_le n st'.o I.ond I.ol
          refine ⟨rfl, _, rfl, _, rfl, fa, _, rfl, .inl (SqL.of (s4 _ _ fa3)), rfl, flat_nl _, ?_⟩
          by_cases hin : x ∈ f
          · refine ⟨false, ?_, s4, ?_⟩
            · show V.bl (!inV (vi x) (nl f)) = V.bl false
              rw [in_nl, decide_eq_true hin]; rfl
            · rw [htk, List.filter_append]
              simp [hin]
              simpa using d4
          · refine ⟨true, ?_, _, rfl, _, d4, ?_, ?_, ?_⟩
            · show V.bl (!inV (vi x) (nl f)) = V.bl true
              rw [in_nl, decide_eq_false hin]; rfl
            · rw [nl_len]
              refine small_le (m := 40) ?_ (by decide)
              refine Nat.le_trans (List.length_filter_le _ _) ?_
              rw [List.length_take]; omega
            · exact keepS s4 (Keep.put (S := [D2]) (by simp)) (by simpa using hD2)
            · rw [upd_same, htk, List.filter_append]
              have e1 : [x].filter (fun y => decide (y ∉ f)) = [x] := by simp [hin]
              rw [e1, nl_snoc]
        · rintro H4 ⟨s4, d4⟩
          rw [nl_len, List.take_length] at d4
          have fa4 := s4 _ _ fa3
          have hfl := len_le n f fnd flt
          have hol := len_le n st'.o I.ond I.ol
          refine ⟨fa, D2, _, _, rfl, rfl, fa4, d4, ?_, f', _, _, _, rfl, ?_, ?_, hf, ?_, ?_⟩
          · rw [nl_len, nl_len]
            refine Nat.le_of_lt (small_le (m := 80) ?_ (by decide))
            have := List.length_filter_le (fun y => decide (y ∉ f)) st'.o
            omega
          · exact keepS ((s1.trans S3.sm).trans s4) (Keep.put (S := [fa]) (by simp)) (by simpa using nfa)
          · rw [upd_same, ← hstep, nl_app]
          · rw [← hstep]
            refine List.nodup_append.mpr ⟨fnd, List.Pairwise.filter _ I.ond, fun a ha b hb e => ?_⟩
            have := of_decide_eq_true (List.mem_filter.mp hb).2
            exact this (e ▸ ha)
          · rw [← hstep]
            intro x hx
            rcases List.mem_append.mp hx with h | h
            · exact flt x h
            · exact I.ol x (List.mem_filter.mp h).1
    · rintro σ H1 ⟨f, v3, v4, v5, rfl, s1, fa1, hf, fnd, flt⟩
      have e : (List.range n).drop n = [] := by rw [List.drop_eq_nil_iff, List.length_range]; exact Nat.le_refl _
      rw [e] at hf
      cases hf
      refine ⟨_, rfl, fa, fF.map (fun x : Nat => (x : Int)), rfl, by rw [← nl_ints]; exact SqL.of fa1, fun ns' a hperm hs ha => ?_⟩
      rw [sorted_nl hperm hs fnd flt]
      exact q a _ (s1.trans (same_new ha)) (s1.free ha) upd_same
def spParts (C : Addr) : Sp := fun vs H Q _ => ∃ (g : Addr) (n : Nat) (es : List (Nat × Nat)) (p : Nat → Option Nat) (left : List Nat), vs = [.ref g] ∧ GraphAt C H g n es ∧ Cherry.greatest n (lks n es) = some p ∧
  Mt (lks n es) p ∧ (∀ v, v < n → p v = none → Block (lks n es) p v) ∧ leftOut n (lks n es) p = some left ∧
  ∀ (t : Addr) (v1 v3 : V) (na : Addr) (H' : Hp), Same H H' → H na = none → H' t = some (.tup [v1, .ref na, v3]) → H' na = some (.lst (nl (near n (lks n es) left))) → Q (.ref t) H'
abbrev sParts : Stmt := top 23
theorem scParts : FnScope ["graph", "left", "near", "node", "other", "rest"] ["graph"] (defScope sParts) := ⟨rfl, rfl, rfl, by decide +kernel, rfl, by decide +kernel, by decide +kernel⟩
/-- the near nodes below i -/
def nearTo (i : Nat) (lk : Nat → List Nat) (left : List Nat) : List Nat := (List.range i).filter fun x => decide (x ∉ left) && (lk x).any fun y => decide (y ∈ left)
theorem nearTo_len (i : Nat) (lk : Nat → List Nat) (left : List Nat) : (nearTo i lk left).length ≤ i := by
  unfold nearTo
  refine Nat.le_trans (List.length_filter_le _ _) ?_
  rw [List.length_range]; exact Nat.le_refl _
theorem nearTo_succ (i : Nat) (lk : Nat → List Nat) (left : List Nat) : nearTo (i + 1) lk left = nearTo i lk left ++ (if i ∉ left ∧ ∃ y ∈ lk i, y ∈ left then [i] else []) := by
  unfold nearTo
  rw [List.range_succ, List.filter_append]
  congr 1
  by_cases h : i ∉ left ∧ ∃ y ∈ lk i, y ∈ left
  · rw [if_pos h]
    have : (decide (i ∉ left) && (lk i).any fun y => decide (y ∈ left)) = true := by
      rw [Bool.and_eq_true]
      refine ⟨by simp [h.1], ?_⟩
      rw [List.any_eq_true]
      obtain ⟨y, h1, h2⟩ := h.2
      exact ⟨y, h1, by simp [h2]⟩
    simp only [List.filter_cons, this, if_true, List.filter_nil]
  · rw [if_neg h]
    have : ¬ (decide (i ∉ left) && (lk i).any fun y => decide (y ∈ left)) = true := by
      intro hh
      rw [Bool.and_eq_true] at hh
      obtain ⟨y, h1, h2⟩ := List.any_eq_true.mp hh.2
      exact h ⟨by simpa using hh.1, y, h1, by simpa using h2⟩
    simp only [List.filter_cons, this, List.filter_nil]
    simp
theorem nearTo_lt {i : Nat} {lk : Nat → List Nat} {left : List Nat} : ∀ x ∈ nearTo i lk left, x < i := fun x hx => by
  have := (List.mem_filter.mp hx).1
  simpa using this
theorem ok_parts {C : Addr} (D : Dfn K mg "parts" sParts ["graph"]) (TG : GTx K C) (m_range : mg "range" = none) (c_left_out : Cal P w K mg base 6 "left_out" (spLeft C)) (c_greatest : Cal P w K mg base 7 "greatest" (spGreat C)) :
    Cal P w K mg base 8 "parts" (spParts C) := by
  refine D.cal scParts (fun vs H Q E h => ?_) (fun f cdv A outer s H vs Q E hr h => ?_)
  · obtain ⟨g, n, es, p, left, rfl, _⟩ := h
    rfl
  · obtain ⟨g, n, es, p, left, rfl, G, hg, M, hB, hl, q⟩ := h
    have hn := G.ok.n40
    obtain ⟨dxg, le, ll, g1, _, rs, r1, r2⟩ := G.ex
    refine ⟨_, (pss_cons (ps_set (i := 1) scParts.nd rfl (Or.inr rfl) (qe_c c_left_out hr (by decide) (by rfl) (pa_cons (pv 0) (pa_cons (qe_c c_greatest hr (by decide) (by rfl) (pa_cons (pv 0) pa_nil)) pa_nil))))
      (pss_cons (ps_set (i := 2) scParts.nd rfl (Or.inr rfl) (pe_lst pa_nil))
      (pss_cons (ps_for PassesOwn.never rfl (pi_range1 (by rfl) m_range (pa_cons (pe_fld (pv 0) rfl) pa_nil)) (pg_name (i := 3) scParts.nd rfl (Or.inl rfl))
        (pss_one (ps_if (pt_cmpR op_notIn_seq (pv 3) (pv 1) rfl)
          (pss_one (ps_for PassesOwn.never rfl (pi_list (pe_ix ix_list (pe_fld (pv 0) rfl) (pv 3) (fun _ _ => rfl))) (pg_name (i := 4) scParts.nd rfl (Or.inl rfl))
            (pss_one (ps_if (PW.pt (pw_and (pt_cmpR op_in_seq (pv 4) (pv 1) rfl) (pw_and1 (pt_cmpR op_notIn_seq (pv 3) (pv 2) rfl))))
              (pss_one (ps_expr (pe_bm PySem.F.plainAttrs_list PySem.F.slot_list_append PySem.F.type_list_append mt_append (pv 2) (pa_cons (pv 3) pa_nil))))
              pss_nil))))
          pss_nil)))
      (pss_cons (ps_setLc (i := 5) (own := [("node", 3)]) (g := (gName 3)) (by rfl) scParts.nd rfl rfl (sw_true rfl rfl rfl (by decide +kernel)) (pi_range1 (by rfl) m_range (pa_cons (pe_fld (pv 0) rfl) pa_nil)) (blkOk_by (own := [("node", 3)]) (N := ["graph", "left", "near", "node", "other", "rest"]) (sc := defScope sParts) (by decide +kernel)) (fun _ _ _ _ _ => (pg_name (i := 3) scParts.nd rfl (Or.inl rfl))) (fun _ _ _ _ _ => (pts_one (PW.pt (pw_and (pt_cmpR (notInSk K rfl) (pv 3) (pv 1) rfl) (pw_and1 (pt_cmpR (notInSk K rfl) (pv 3) (pv 2) rfl)))))) (fun _ _ _ _ _ => (pv 3)))
      (pss_one (ps_ret (pe_tup (pa_cons (pv 1) (pa_cons (pv 2) (pa_cons (pv 5) pa_nil)))))))))), ?_⟩
    refine ⟨_, rfl, _, rfl, g, n, es, p, rfl, G, hg, fun pa H1 s1 npa pa1 => ?_⟩
    refine ⟨g, pa, n, es, p, left, rfl, G.same s1, pa1, M, hB, hl, fun la H2 s2 nla la2 => ?_⟩
    refine ⟨Nat.zero_le _, fun na nna => ?_⟩
    have s3 : Same H2 (upd H2 na (.lst [])) := same_new nna
    have sA := (s1.trans s2).trans s3
    have nH : H na = none := (s1.trans s2).free nna
    refine ⟨_, rfl, g, C, dxg, _, _, rfl, sA _ _ g1, TG.cl, TG.n1, rfl, _, rfl, by omega, by omega, for_rng0 (n := n) (fun i σ H' => ∃ (v3 v4 : Option V), σ = [some (.ref g), some (.ref la), some (.ref na), v3, v4, none] ∧ Same H2 H' ∧ H' na = some (.lst (nl (nearTo i (lks n es) left))))
      ⟨_, _, rfl, s3, upd_same⟩ ?_ ?_⟩
    · rintro i σ H4 hi ⟨v3, v4, rfl, s4, na4⟩
      have la4 := s4 _ _ la2
      refine ⟨_, rfl, _, rfl, la, _, rfl, .inl (SqL.of la4), rfl, flat_nl _, ?_⟩
      by_cases hin : i ∈ left
      · refine ⟨false, ?_, _, _, rfl, s4, ?_⟩
        · show V.bl (!inV (vi i) (nl left)) = V.bl false
          rw [in_nl, decide_eq_true hin]; rfl
        · rw [nearTo_succ, if_neg (fun h => h.1 hin), List.append_nil]; exact na4
      · refine ⟨true, ?_, ?_⟩
        · show V.bl (!inV (vi i) (nl left)) = V.bl true
          rw [in_nl, decide_eq_false hin]; rfl
        obtain ⟨r, a1, a2, a3⟩ := r2.get hi
        have sH4 := (s1.trans s2).trans s4
        refine ⟨_, rfl, g, C, dxg, _, _, rfl, sH4 _ _ g1, TG.cl, TG.n3, rfl, _, rfl, ll, _, _, _, rfl, rfl, SqL.of (sH4 _ _ r1), atI_nat a2, r, rfl, ⟨_, SqL.of (sH4 _ _ a3)⟩,
          for_list (K := K) (a := r) (xs := nl (lks n es i)) (fun j σ H' => ∃ v4 : Option V, σ = [some (.ref g), some (.ref la), some (.ref na), some (vi i), v4, none] ∧ Same H2 H' ∧ H' na = some (.lst (nl (nearTo i (lks n es) left ++ (if ∃ y ∈ (lks n es i).take j, y ∈ left then [i] else [])))))
          ⟨_, rfl, s4, by simpa using na4⟩ (fun j σ H' _ ⟨_, _, s', _⟩ => SqL.of (((s1.trans s2).trans s') _ _ a3)) ?_ ?_⟩
        · rintro j y σ H5 hy ⟨v4, rfl, s5, na5⟩
          obtain ⟨y, hyl, rfl⟩ := nl_get hy
          have htk : (lks n es i).take (j + 1) = (lks n es i).take j ++ [y] := by rw [List.take_add_one, hyl]; rfl
          have la5 := s5 _ _ la2
          refine ⟨_, rfl, _, rfl, la, _, rfl, .inl (SqL.of la5), rfl, flat_nl _, ?_⟩
          by_cases hyf : y ∈ left
          · refine ⟨true, ?_, ?_⟩
            · show V.bl (inV (vi y) (nl left)) = V.bl true
              rw [in_nl, decide_eq_true hyf]
            have hall : ∃ z ∈ (lks n es i).take (j + 1), z ∈ left := ⟨y, by rw [htk]; simp, hyf⟩
            refine ⟨_, rfl, _, rfl, na, _, rfl, .inl (SqL.of na5), rfl, flat_nl _, ?_⟩
            by_cases hj : ∃ z ∈ (lks n es i).take j, z ∈ left
            · rw [if_pos hj] at na5 ⊢
              refine ⟨false, ?_, _, rfl, s5, ?_⟩
              · show V.bl (!inV (vi i) (nl (nearTo i (lks n es) left ++ [i]))) = V.bl false
                rw [in_nl, decide_eq_true (by simp)]; rfl
              · rw [if_pos hall]; exact na5
            · rw [if_neg hj, List.append_nil] at na5 ⊢
              have hni : i ∉ nearTo i (lks n es) left := fun h => Nat.lt_irrefl _ (nearTo_lt i h)
              refine ⟨true, ?_, ?_⟩
              · show V.bl (!inV (vi i) (nl (nearTo i (lks n es) left))) = V.bl true
                rw [in_nl, decide_eq_false hni]; rfl
              have hnl := nearTo_len i (lks n es) left
              refine ⟨_, rfl, .inl ⟨rfl, _, SqL.of na5⟩, _, rfl, na, _, _, rfl, rfl, na5, by rw [nl_len]; exact small_le (m := 40) (by omega) (by decide), _, rfl, ?_, ?_⟩
              · exact keepS s5 (Keep.put (S := [na]) (by simp)) (by simpa using nna)
              · rw [if_pos hall, upd_same, nl_snoc]
          · refine ⟨false, ?_, _, rfl, s5, ?_⟩
            · show V.bl (inV (vi y) (nl left)) = V.bl false
              rw [in_nl, decide_eq_false hyf]
            · have hiff : (∃ z ∈ (lks n es i).take (j + 1), z ∈ left) ↔ ∃ z ∈ (lks n es i).take j, z ∈ left := by
                rw [htk]
                constructor
                · rintro ⟨z, hz, h⟩
                  rcases List.mem_append.mp hz with hz | hz
                  · exact ⟨z, hz, h⟩
                  · rw [List.mem_singleton.mp hz] at h; exact absurd h hyf
                · rintro ⟨z, hz, h⟩
                  exact ⟨z, List.mem_append_left _ hz, h⟩
              by_cases hj : ∃ z ∈ (lks n es i).take j, z ∈ left
              · rw [if_pos hj] at na5
                rw [if_pos (hiff.mpr hj)]; exact na5
              · rw [if_neg hj] at na5
                rw [if_neg (fun h => hj (hiff.mp h))]; exact na5
        · rintro σ H5 ⟨v4, rfl, s5, na5⟩
          rw [nl_len, List.take_length] at na5
          refine ⟨_, _, rfl, s5, ?_⟩
          rw [nearTo_succ]
          by_cases hj : ∃ z ∈ lks n es i, z ∈ left
          · rw [if_pos hj] at na5
            rw [if_pos ⟨hin, hj⟩]; exact na5
          · rw [if_neg hj] at na5
            rw [if_neg (fun h => hj h.2)]; exact na5
    · rintro σ H4 ⟨v3, v4, rfl, s4, na4⟩
      have la4 := s4 _ _ la2
      have sH4 := (s1.trans s2).trans s4
      refine ⟨_, rfl, g, C, dxg, _, _, rfl, sH4 _ _ g1, TG.cl, TG.n1, rfl, _, rfl, by omega, by omega, fun D2 hD2 => lc_rng0 (n := n) (fun i H' => Same H4 H' ∧ ∃ zs, H' D2 = some (.lst zs) ∧ zs.length ≤ i) ⟨same_new hD2, [], upd_same, Nat.le_refl _⟩ ?_ ?_⟩
      · rintro i H5 hi ⟨s5, zs, d5, hz⟩
        have put : ∀ y : V, ∃ acc, H5 D2 = some (.lst acc) ∧ acc.length < sizeLine ∧ (Same H4 (upd H5 D2 (.lst (acc ++ [y]))) ∧ ∃ zs, upd H5 D2 (.lst (acc ++ [y])) D2 = some (.lst zs) ∧ zs.length ≤ i + 1) := fun y =>
          ⟨zs, d5, small_le (m := 40) (by omega) (by decide), keepS s5 (Keep.put (S := [D2]) (by simp)) (by simpa using hD2), _, upd_same, by simp; omega⟩
        have skip : Same H4 H5 ∧ ∃ zs, H5 D2 = some (.lst zs) ∧ zs.length ≤ i + 1 := ⟨s5, zs, d5, by omega⟩
        refine ⟨rfl, _, rfl, _, rfl, la, _, rfl, .inl (SqL.of (s5 _ _ la4)), rfl, flat_nl _, ?_⟩
        by_cases h1 : i ∈ left
        · refine ⟨false, ?_, skip⟩
          show V.bl (!inV (vi i) (nl left)) = V.bl false
          rw [in_nl, decide_eq_true h1]; rfl
        · refine ⟨true, ?_, _, rfl, _, rfl, na, _, rfl, .inl (SqL.of (s5 _ _ na4)), rfl, flat_nl _, ?_⟩
          · show V.bl (!inV (vi i) (nl left)) = V.bl true
            rw [in_nl, decide_eq_false h1]; rfl
          by_cases h2 : i ∈ nearTo n (lks n es) left
          · refine ⟨false, ?_, skip⟩
            show V.bl (!inV (vi i) (nl (nearTo n (lks n es) left))) = V.bl false
            rw [in_nl, decide_eq_true h2]; rfl
          · refine ⟨true, ?_, _, rfl, put _⟩
            show V.bl (!inV (vi i) (nl (nearTo n (lks n es) left))) = V.bl true
            rw [in_nl, decide_eq_false h2]; rfl
      · rintro H5 ⟨s5, zs, d5, _⟩
        refine ⟨_, rfl, _, rfl, _, rfl, (by show 3 ≤ sizeLine; decide), fun t ht => ?_⟩
        have s6 : Same H5 (upd H5 t (.tup [.ref la, .ref na, .ref D2])) := same_new ht
        exact q t _ _ na _ ((sH4.trans s5).trans s6) nH upd_same (s6 _ _ (s5 _ _ na4))
def spGM (C : Addr) : Sp := fun vs H Q _ => ∃ (g : Addr) (n : Nat) (es : List (Nat × Nat)) (p : Nat → Option Nat) (left : List Nat), vs = [.ref g] ∧ GraphAt C H g n es ∧ Cherry.greatest n (lks n es) = some p ∧
  Mt (lks n es) p ∧ (∀ v, v < n → p v = none → Block (lks n es) p v) ∧ leftOut n (lks n es) p = some left ∧
  ∀ (t ea na : Addr) (H' : Hp), Same H H' → H ea = none → H na = none → ea ≠ na → H' t = some (.tup [.ref ea, .ref na]) → PL H' ea (edgesOf n p) → H' na = some (.lst (nl (near n (lks n es) left))) → Q (.ref t) H'
abbrev sGM : Stmt := top 24
theorem scGM : FnScope ["graph"] ["graph"] (defScope sGM) := ⟨rfl, rfl, rfl, by decide +kernel, rfl, by decide +kernel, by decide +kernel⟩
theorem ok_gm {C : Addr} (D : Dfn K mg "greatest_matching" sGM ["graph"]) (c_edges_of : Cal P w K mg base 1 "edges_of" spEdgesOf) (c_greatest : Cal P w K mg base 7 "greatest" (spGreat C)) (c_parts : Cal P w K mg base 8 "parts" (spParts C)) :
    Cal P w K mg base 9 "greatest_matching" (spGM C) := by
  refine D.cal scGM (fun vs H Q E h => ?_) (fun f cdv A outer s H vs Q E hr h => ?_)
  · obtain ⟨g, n, es, p, left, rfl, _⟩ := h
    rfl
  · obtain ⟨g, n, es, p, left, rfl, G, hg, M, hB, hl, q⟩ := h
    refine ⟨_, (pss_one (ps_ret (pe_tup (pa_cons (qe_c c_edges_of hr (by decide) (by rfl) (pa_cons (qe_c c_greatest hr (by decide) (by rfl) (pa_cons (pv 0) pa_nil)) pa_nil)) (pa_cons (pe_ix ix_tup (qe_c c_parts hr (by decide) (by rfl) (pa_cons (pv 0) pa_nil)) pe_int (fun _ _ => rfl)) pa_nil))))), ?_⟩
    refine ⟨_, rfl, g, n, es, p, rfl, G, hg, fun pa H1 s1 npa pa1 => ?_⟩
    refine ⟨pa, n, p, rfl, G.ok.n40, pa1, fun ea H2 s2 nea pl => ?_⟩
    have s12 := s1.trans s2
    refine ⟨_, rfl, g, n, es, p, left, rfl, G.same s12, hg, M, hB, hl, fun t v1 v3 na H3 s3 nna ht3 na3 => ?_⟩
    refine ⟨t, _, _, _, rfl, rfl, SqT.of ht3, at_of (j := 1) rfl rfl, (by show 2 ≤ sizeLine; decide), fun u hu => ?_⟩
    have s4 : Same H3 (upd H3 u (.tup [.ref ea, .ref na])) := same_new hu
    obtain ⟨ts, e1, _⟩ := pl.ex
    exact q u ea na _ ((s12.trans s3).trans s4) (s1.free nea) (s12.free nna) (ne_of_none e1 nna) upd_same ((pl.same s3).same s4) (s4 _ _ na3)
end
end Cherry
namespace Cherry
open PySem PySem.Spec PyProof.Rows L2
section
variable {P : Program} {w : World} {K : PySem.W.Frag} {mg : Str → Option Value} {base : Heap}
/-- two values of one form, d levels deep at most -/
def EqV : Nat → Hp → V → V → Prop
  | 0, _, a, b => ∃ i : Int, a = .int i ∧ b = .int i
  | d + 1, H, a, b => (∃ i : Int, a = .int i ∧ b = .int i) ∨ ∃ (pa pb : Addr) (xs ys : List V), a = .ref pa ∧ b = .ref pb ∧
    ((H pa = some (.lst xs) ∧ H pb = some (.lst ys)) ∨ (H pa = some (.tup xs) ∧ H pb = some (.tup ys))) ∧ xs.length = ys.length ∧ ys.length ≤ 100000 ∧
      ∀ (i : Nat) (x y : V), xs[i]? = some x → ys[i]? = some y → EqV d H x y
def spEq (d : Nat) : Sp := fun vs H Q _ => ∃ a b : V, vs = [a, b] ∧ EqV d H a b ∧ Q (.bl true) H
def spAll : Nat → Sp
  | 0 => fun _ _ _ _ => False
  | d + 1 => fun vs H Q _ => ∃ (pa pb : Addr) (xs ys : List V), vs = [.ref pa, .ref pb] ∧ ((H pa = some (.lst xs) ∧ H pb = some (.lst ys)) ∨ (H pa = some (.tup xs) ∧ H pb = some (.tup ys))) ∧ xs.length = ys.length ∧ ys.length ≤ 100000 ∧
      (∀ (i : Nat) (x y : V), xs[i]? = some x → ys[i]? = some y → EqV d H x y) ∧ Q (.bl true) H
theorem eqv_cases {d : Nat} {H : Hp} {a b : V} (h : EqV d H a b) : (∃ i : Int, a = .int i ∧ b = .int i) ∨ ∃ (d' : Nat) (pa pb : Addr) (xs ys : List V), d = d' + 1 ∧ a = .ref pa ∧ b = .ref pb ∧
    ((H pa = some (.lst xs) ∧ H pb = some (.lst ys)) ∨ (H pa = some (.tup xs) ∧ H pb = some (.tup ys))) ∧ xs.length = ys.length ∧ ys.length ≤ 100000 ∧ ∀ (i : Nat) (x y : V), xs[i]? = some x → ys[i]? = some y → EqV d' H x y := by
  cases d with
  | zero => exact .inl h
  | succ d =>
    rcases h with h | ⟨pa, pb, xs, ys, h⟩
    · exact .inl h
    · exact .inr ⟨d, pa, pb, xs, ys, rfl, h⟩
theorem ne_len {a b : Nat} (h : a = b) : V.bl (!decide (V.int (a : Int) = V.int (b : Int))) = V.bl false := by
  rw [h, decide_eq_true rfl]; rfl
abbrev sEq : Stmt := top 29
abbrev sAll : Stmt := top 30
theorem scEq : FnScope ["_law_actual", "_law_due"] ["_law_actual", "_law_due"] (defScope sEq) := ⟨rfl, rfl, rfl, by decide +kernel, rfl, by decide +kernel, by decide +kernel⟩
theorem scAll : FnScope ["_law_actual", "_law_due", "_law_k"] ["_law_actual", "_law_due"] (defScope sAll) := ⟨rfl, rfl, rfl, by decide +kernel, rfl, by decide +kernel, by decide +kernel⟩
theorem ok_equal {k d : Nat} (D : Dfn K mg "_law_equal" sEq ["_law_actual", "_law_due"]) (m_isinstance : mg "isinstance" = none) (m_len : mg "len" = none) (m_list : mg "list" = none) (m_tuple : mg "tuple" = none) (m_bool : mg "bool" = none) (m_int : mg "int" = none) (m_str : mg "str" = none)
    (c__law_all_equal : Cal P w K mg base k "_law_all_equal" (spAll d)) : Cal P w K mg base (k + 1) "_law_equal" (spEq d) := by
  refine D.cal scEq (fun vs H Q E h => ?_) (fun f cdv A outer s H vs Q E hr h => ?_)
  · obtain ⟨a, b, rfl, _⟩ := h
    rfl
  · obtain ⟨a, b, rfl, he, q⟩ := h
    refine ⟨_, (pss_cons (ps_if (pt_val (pe_callB call_isi (by rfl) m_isinstance (by decide +kernel) (pa_cons (pv 1) (pa_cons (pe_bltn (v := .ty "list") (u := .type "list") (by rfl) m_list (by decide +kernel) rfl) pa_nil))))
        (pss_cons (ps_if (PW.pt (pw_or (pt_not (pt_val (pe_callB call_isi (by rfl) m_isinstance (by decide +kernel) (pa_cons (pv 0) (pa_cons (pe_bltn (v := .ty "list") (u := .type "list") (by rfl) m_list (by decide +kernel) rfl) pa_nil))))) (pw_or1 (pt_cmpR op_ne (pe_callB call_len_seq (by rfl) m_len PySem.boot_len (pa_cons (pv 0) pa_nil)) (pe_callB call_len_seq (by rfl) m_len PySem.boot_len (pa_cons (pv 1) pa_nil)) (nomark _)))))
          (pss_one (ps_ret pe_bl))
          pss_nil)
        (pss_one (ps_ret (qe_c c__law_all_equal hr (Nat.le_refl _) (by rfl) (pa_cons (pv 0) (pa_cons (pv 1) pa_nil))))))
        pss_nil)
      (pss_cons (ps_if (pt_val (pe_callB call_isi (by rfl) m_isinstance (by decide +kernel) (pa_cons (pv 1) (pa_cons (pe_bltn (v := .ty "tuple") (u := .type "tuple") (by rfl) m_tuple (by decide +kernel) rfl) pa_nil))))
        (pss_cons (ps_if (PW.pt (pw_or (pt_not (pt_val (pe_callB call_isi (by rfl) m_isinstance (by decide +kernel) (pa_cons (pv 0) (pa_cons (pe_bltn (v := .ty "tuple") (u := .type "tuple") (by rfl) m_tuple (by decide +kernel) rfl) pa_nil))))) (pw_or1 (pt_cmpR op_ne (pe_callB call_len_seq (by rfl) m_len PySem.boot_len (pa_cons (pv 0) pa_nil)) (pe_callB call_len_seq (by rfl) m_len PySem.boot_len (pa_cons (pv 1) pa_nil)) (nomark _)))))
          (pss_one (ps_ret pe_bl))
          pss_nil)
        (pss_one (ps_ret (qe_c c__law_all_equal hr (Nat.le_refl _) (by rfl) (pa_cons (pv 0) (pa_cons (pv 1) pa_nil))))))
        pss_nil)
      (pss_cons (ps_if (pt_val (pe_callB call_isi (by rfl) m_isinstance (by decide +kernel) (pa_cons (pv 1) (pa_cons (pe_bltn (v := .ty "bool") (u := .type "bool") (by rfl) m_bool (by decide +kernel) rfl) pa_nil))))
        (pss_one (ps_ret (pe_and (pe_callB call_isi (by rfl) m_isinstance (by decide +kernel) (pa_cons (pv 0) (pa_cons (pe_bltn (v := .ty "bool") (u := .type "bool") (by rfl) m_bool (by decide +kernel) rfl) pa_nil))) (pe_one (pe_cmpR op_eq (pv 0) (pv 1) (nomark _))))))
        pss_nil)
      (pss_cons (ps_if (pt_val (pe_callB call_isi (by rfl) m_isinstance (by decide +kernel) (pa_cons (pv 1) (pa_cons (pe_bltn (v := .ty "int") (u := .type "int") (by rfl) m_int (by decide +kernel) rfl) pa_nil))))
        (pss_one (ps_ret (pe_and (pe_callB call_isi (by rfl) m_isinstance (by decide +kernel) (pa_cons (pv 0) (pa_cons (pe_bltn (v := .ty "int") (u := .type "int") (by rfl) m_int (by decide +kernel) rfl) pa_nil))) (pe_and (pe_not (pe_callB call_isi (by rfl) m_isinstance (by decide +kernel) (pa_cons (pv 0) (pa_cons (pe_bltn (v := .ty "bool") (u := .type "bool") (by rfl) m_bool (by decide +kernel) rfl) pa_nil)))) (pe_one (pe_cmpR op_eq (pv 0) (pv 1) (nomark _)))))))
        pss_nil)
      (pss_cons (ps_if (pt_val (pe_callB call_isi (by rfl) m_isinstance (by decide +kernel) (pa_cons (pv 1) (pa_cons (pe_bltn (v := .ty "str") (u := .type "str") (by rfl) m_str (by decide +kernel) rfl) pa_nil))))
        (pss_one (ps_ret (pe_and (pe_callB call_isi (by rfl) m_isinstance (by decide +kernel) (pa_cons (pv 0) (pa_cons (pe_bltn (v := .ty "str") (u := .type "str") (by rfl) m_str (by decide +kernel) rfl) pa_nil))) (pe_one (pe_cmpR op_eq (pv 0) (pv 1) (nomark _))))))
        pss_nil)
      (pss_one (ps_ret (pe_cmpR op_isN (pv 0) pe_non (nomark _))))))))), ?_⟩
    rcases eqv_cases he with ⟨i, rfl, rfl⟩ | ⟨d', pa, pb, xs, ys, rfl, rfl, rfl, hs, hl, hn, hx⟩
    · refine ⟨_, rfl, _, _, _, _, false, rfl, .ty _, .base (.int i), kit_ty k_il, false, rfl, ?_⟩
      refine ⟨_, rfl, _, _, _, _, false, rfl, .ty _, .base (.int i), kit_ty k_it, false, rfl, ?_⟩
      refine ⟨_, rfl, _, _, _, _, false, rfl, .ty _, .base (.int i), kit_ty k_ib, false, rfl, ?_⟩
      refine ⟨_, rfl, _, _, _, _, true, rfl, .ty _, .base (.int i), kit_ty k_ii, true, rfl, ?_⟩
      refine ⟨_, rfl, _, _, _, _, true, rfl, .ty _, .base (.int i), kit_ty k_ii, true, rfl, ?_⟩
      refine ⟨_, rfl, _, _, _, _, false, rfl, .ty _, .base (.int i), kit_ty k_ib, false, rfl, true, rfl, ?_⟩
      refine ⟨_, rfl, _, rfl, rfl, ?_⟩
      show Q (V.bl (decide (V.int i = V.int i))) H
      rw [decide_eq_true rfl]; exact q
    · rcases hs with ⟨h1, h2⟩ | ⟨h1, h2⟩
      · refine ⟨_, rfl, _, _, _, _, true, rfl, .ty _, .base (.lst h2), kit_ty k_ll, true, rfl, ?_⟩
        refine ⟨_, rfl, _, _, _, _, true, rfl, .ty _, .base (.lst h1), kit_ty k_ll, true, rfl, ?_⟩
        refine ⟨_, rfl, pa, _, rfl, .inl (SqL.of h1), _, rfl, pb, _, rfl, .inl (SqL.of h2), rfl, false, ne_len hl, ?_⟩
        exact ⟨_, rfl, _, rfl, pa, pb, xs, ys, rfl, .inl ⟨h1, h2⟩, hl, hn, hx, q⟩
      · refine ⟨_, rfl, _, _, _, _, false, rfl, .ty _, .base (.tup h2), kit_ty k_tl, false, rfl, ?_⟩
        refine ⟨_, rfl, _, _, _, _, true, rfl, .ty _, .base (.tup h2), kit_ty k_tt, true, rfl, ?_⟩
        refine ⟨_, rfl, _, _, _, _, true, rfl, .ty _, .base (.tup h1), kit_ty k_tt, true, rfl, ?_⟩
        refine ⟨_, rfl, pa, _, rfl, .inr (SqT.of h1), _, rfl, pb, _, rfl, .inr (SqT.of h2), rfl, false, ne_len hl, ?_⟩
        exact ⟨_, rfl, _, rfl, pa, pb, xs, ys, rfl, .inr ⟨h1, h2⟩, hl, hn, hx, q⟩
theorem ok_all {k d : Nat} (D : Dfn K mg "_law_all_equal" sAll ["_law_actual", "_law_due"]) (m_range : mg "range" = none) (m_len : mg "len" = none)
    (c__law_equal : Cal P w K mg base k "_law_equal" (spEq d)) : Cal P w K mg base (k + 1) "_law_all_equal" (spAll (d + 1)) := by
  refine D.cal scAll (fun vs H Q E h => ?_) (fun f cdv A outer s H vs Q E hr h => ?_)
  · obtain ⟨pa, pb, xs, ys, rfl, _⟩ := h
    rfl
  · obtain ⟨pa, pb, xs, ys, rfl, hs, hl, hn, he, q⟩ := h
    refine ⟨_, (pss_cons (ps_for PassesOwn.never rfl (pi_range1 (by rfl) m_range (pa_cons (pe_callB call_len_seq (by rfl) m_len PySem.boot_len (pa_cons (pv 1) pa_nil)) pa_nil)) (pg_name (i := 2) scAll.nd rfl (Or.inl rfl))
        (pss_one (ps_if (pt_not (pt_val (qe_c c__law_equal hr (Nat.le_refl _) (by rfl) (pa_cons (pe_ix ix_seq (pv 0) (pv 2) (fun _ _ => rfl)) (pa_cons (pe_ix ix_seq (pv 1) (pv 2) (fun _ _ => rfl)) pa_nil)))))
          (pss_one (ps_ret pe_bl))
          pss_nil)))
      (pss_one (ps_ret pe_bl))), ?_⟩
    have sq : SqL K H pa xs ∧ SqL K H pb ys ∨ SqT K H pa xs ∧ SqT K H pb ys := hs.imp (fun h => ⟨SqL.of h.1, SqL.of h.2⟩) fun h => ⟨SqT.of h.1, SqT.of h.2⟩
    have sb : SqL K H pb ys ∨ SqT K H pb ys := sq.imp (·.2) (·.2)
    have ixa : ∀ {i : Nat} {x : V} {Q : VK}, xs[i]? = some x → Q x H → rIx K (.ref pa) (vi i) H Q := fun {i x Q} e q => sq.elim (fun h => .inl ⟨pa, xs, i, x, rfl, rfl, h.1, atI_nat e, q⟩) fun h => .inr (.inl ⟨pa, xs, i, x, rfl, rfl, h.1, atI_nat e, q⟩)
    have ixb : ∀ {i : Nat} {x : V} {Q : VK}, ys[i]? = some x → Q x H → rIx K (.ref pb) (vi i) H Q := fun {i x Q} e q => sb.elim (fun h => .inl ⟨pb, ys, i, x, rfl, rfl, h, atI_nat e, q⟩) fun h => .inr (.inl ⟨pb, ys, i, x, rfl, rfl, h, atI_nat e, q⟩)
    refine ⟨_, rfl, pb, ys, rfl, sb, _, rfl, by omega, by omega, for_rng0 (n := ys.length) (fun i σ H' => ∃ v, σ = [some (.ref pa), some (.ref pb), v] ∧ H' = H) ⟨_, rfl, rfl⟩ ?_ ?_⟩
    · rintro i σ H' hi ⟨v, rfl, rfl⟩
      have e1 : xs[i]? = some xs[i] := List.getElem?_eq_getElem (by omega)
      have e2 : ys[i]? = some ys[i] := List.getElem?_eq_getElem hi
      refine ⟨_, rfl, _, rfl, ixa e1 ⟨_, rfl, _, rfl, ixb e2 ⟨_, _, rfl, he i _ _ e1 e2, ?_⟩⟩⟩
      exact ⟨true, rfl, _, rfl, rfl⟩
    · rintro σ H' ⟨v, rfl, rfl⟩
      exact q
end
theorem EqV.mono {d : Nat} {H : Hp} {a b : V} (i : Int) (ha : a = .int i) (hb : b = .int i) : EqV d H a b := by
  cases d with
  | zero => exact ⟨i, ha, hb⟩
  | succ d => exact .inl ⟨i, ha, hb⟩
end Cherry
namespace Cherry
open PySem PySem.Spec PyProof.Rows L2
section
variable {P : Program} {w : World} {K : PySem.W.Frag} {mg : Str → Option Value} {base : Heap}
theorem notin_t {x : Nat} {l : List Nat} (h : x ∉ l) : V.bl (!inV (vi x) (nl l)) = V.bl true := by
  rw [in_nl, decide_eq_false h]; rfl
theorem notin_f {x : Nat} {l : List Nat} (h : x ∈ l) : V.bl (!inV (vi x) (nl l)) = V.bl false := by
  rw [in_nl, decide_eq_true h]; rfl
def spReach5 : Sp := fun vs H Q _ => ∃ (ar ga : Addr) (n s : Nat) (lk : Nat → List Nat) (A : List Nat), vs = [.ref ar, vi s, .ref ga] ∧ Gr n lk ∧ n ≤ 40 ∧ RL H ar n lk ∧ H ga = some (.lst (nl A)) ∧ s < n ∧ s ∉ A ∧
  ∀ (r : Addr) (R : List Nat) (H' : Hp), Same H H' → H r = none → H' r = some (.lst (nl R)) → RP n lk A s R → (∀ x ∈ R, ∀ z ∈ lk x, z ∉ A → z ∈ R) → Q (.ref r) H'
abbrev sReach5 : Stmt := top 35
theorem scReach5 : FnScope ["_law_around_here", "_law_start", "_law_gone", "_law_reached", "_law_at", "_law_turn", "_law_u"] ["_law_around_here", "_law_start", "_law_gone"] (defScope sReach5) := ⟨rfl, rfl, rfl, by decide +kernel, rfl, by decide +kernel, by decide +kernel⟩
theorem ok_lreach (D : Dfn K mg "_law_reach" sReach5 ["_law_around_here", "_law_start", "_law_gone"]) (m_range : mg "range" = none) (m_len : mg "len" = none) (m_sorted : mg "sorted" = none) :
    Cal P w K mg base 1 "_law_reach" spReach5 := by
  refine D.cal scReach5 (fun vs H Q E h => ?_) (fun f cdv A outer s H vs Q E hr h => ?_)
  · obtain ⟨ar, ga, n, s, lk, A, rfl, _⟩ := h
    rfl
  · obtain ⟨ar, ga, n, st, lk, G0, rfl, G, hn, rl, hga, hs, hsA, q⟩ := h
    obtain ⟨rs, r1, r2⟩ := rl.ex
    have hrs : (rs.map V.ref).length = n := by rw [List.length_map, r2.len]
    refine ⟨_, (pss_cons (ps_set (i := 3) scReach5.nd rfl (Or.inl rfl) (pe_lst (pa_cons (pv 1) pa_nil)))
      (pss_cons (ps_set (i := 4) scReach5.nd rfl (Or.inl rfl) pe_int)
      (pss_cons (ps_for PassesOwn.never rfl (pi_range1 (by rfl) m_range (pa_cons (pe_callB call_len_seq (by rfl) m_len PySem.boot_len (pa_cons (pv 0) pa_nil)) pa_nil)) (pg_name (i := 5) scReach5.nd rfl (Or.inl rfl))
        (pss_one (ps_if (pt_cmpR op_lt (pv 4) (pe_callB call_len_seq (by rfl) m_len PySem.boot_len (pa_cons (pv 3) pa_nil)) (nomark _))
          (pss_cons (ps_for PassesOwn.never rfl (pi_list (pe_ix ix_list (pv 0) (pe_ix ix_list (pv 3) (pv 4) (fun _ _ => rfl)) (fun _ _ => rfl))) (pg_name (i := 6) scReach5.nd rfl (Or.inl rfl))
            (pss_one (ps_if (PW.pt (pw_and (pt_cmpR op_notIn_seq (pv 6) (pv 3) rfl) (pw_and1 (pt_cmpR op_notIn_seq (pv 6) (pv 2) rfl))))
              (pss_one (ps_expr (pe_bm PySem.F.plainAttrs_list PySem.F.slot_list_append PySem.F.type_list_append mt_append (pv 3) (pa_cons (pv 6) pa_nil))))
              pss_nil)))
          (pss_one (ps_set (i := 4) scReach5.nd rfl (Or.inl rfl) (pe_op op_add (pv 4) pe_int))))
          pss_nil)))
      (pss_one (ps_ret (pe_callB cr_sortedI (by rfl) m_sorted (by decide +kernel) (pa_cons (pv 3) pa_nil))))))), ?_⟩
    refine ⟨_, rfl, (by show 1 ≤ sizeLine; decide), fun p np => ?_⟩
    have s0 : Same H (upd H p (.lst [vi st])) := same_new np
    refine ⟨_, rfl, ar, _, rfl, .inl (SqL.of (s0 _ _ r1)), _, rfl, by omega, by omega, for_rng0 (n := (rs.map V.ref).length) (fun i σ H' => ∃ (k : Nat) (R : List Nat) (v5 v6 : Option V), σ = [some (.ref ar), some (vi st), some (.ref ga), some (.ref p), some (vi k), v5, v6] ∧
        Same H H' ∧ H' p = some (.lst (nl R)) ∧ ROut n lk G0 st R i k) ⟨0, [st], _, _, rfl, s0, upd_same, .start hs hsA⟩ ?_ ?_⟩
    · rintro i σ H1 hi ⟨k, R, v5, v6, rfl, s1, p1, O⟩
      refine ⟨_, rfl, _, rfl, p, _, rfl, .inl (SqL.of p1), _, _, rfl, rfl, ?_⟩
      by_cases hk : k < R.length
      · refine ⟨true, bT (by rw [nl_len]; omega), ?_⟩
        have hx : R[k]? = some R[k] := List.getElem?_eq_getElem hk
        generalize R[k] = x at *
        have hxm := List.mem_of_getElem? hx
        have hxn := (O.rp.lt x hxm).1
        obtain ⟨r, a1, a2, a3⟩ := r2.get hxn
        have hxv : (nl R)[k]? = some (vi x) := by rw [List.getElem?_map, hx]; rfl
        refine ⟨_, rfl, _, rfl, _, rfl, p, _, _, _, rfl, rfl, SqL.of p1, atI_nat hxv, ar, _, _, _, rfl, rfl, SqL.of (s1 _ _ r1), atI_nat a2, r, rfl, ⟨_, SqL.of (s1 _ _ a3)⟩,
          for_list (K := K) (a := r) (xs := nl (lk x)) (fun j σ H' => ∃ (R' : List Nat) (v6 : Option V), σ = [some (.ref ar), some (vi st), some (.ref ga), some (.ref p), some (vi k), some (vi i), v6] ∧ Same H H' ∧ H' p = some (.lst (nl R')) ∧ RIn n lk G0 st R R' x j)
          ⟨R, _, rfl, s1, p1, .start O.rp⟩ (fun j σ H' _ ⟨_, _, _, s', _⟩ => SqL.of (s' _ _ a3)) ?_ ?_⟩
        · rintro j y σ H2 hy ⟨R', v6, rfl, s2, p2, I⟩
          obtain ⟨y, hyl, rfl⟩ := nl_get hy
          refine ⟨_, rfl, _, rfl, p, _, rfl, .inl (SqL.of p2), rfl, flat_nl _, ?_⟩
          by_cases hin : y ∈ R'
          · exact ⟨false, notin_f hin, R', _, rfl, s2, p2, I.skip hyl (.inl hin)⟩
          · refine ⟨true, notin_t hin, _, rfl, _, rfl, ga, _, rfl, .inl (SqL.of (s2 _ _ hga)), rfl, flat_nl _, ?_⟩
            by_cases hA : y ∈ G0
            · exact ⟨false, notin_f hA, R', _, rfl, s2, p2, I.skip hyl (.inr hA)⟩
            · have hl := len_le n R' I.rp.nd fun x hx => (I.rp.lt x hx).1
              refine ⟨true, notin_t hA, _, rfl, .inl ⟨rfl, _, SqL.of p2⟩, _, rfl, p, _, _, rfl, rfl, p2, by rw [nl_len]; exact small_le (m := 40) (by omega) (by decide), R' ++ [y], _, rfl, ?_, ?_, ?_⟩
              · exact keepS s2 (Keep.put (S := [p]) (by simp)) (by simpa using np)
              · rw [upd_same, nl_snoc]
              · obtain ⟨t, et⟩ := I.ext
                exact I.add G (by rw [et]; exact List.mem_append_left _ hxm) hyl hin hA
        · rintro σ H2 ⟨R', v6, rfl, s2, p2, I⟩
          rw [nl_len] at I
          exact ⟨_, rfl, _, _, rfl, rfl, k + 1, R', _, _, rfl, s2, p2, O.turn hk hx I⟩
      · refine ⟨false, bF (by rw [nl_len]; omega), k, R, _, _, rfl, s1, p1, O.stay hk⟩
    · rintro σ H1 ⟨k, R, v5, v6, rfl, s1, p1, O⟩
      rw [hrs] at O
      have hcl := O.done
      have hlt : ∀ x ∈ R, x < n := fun x hx => (O.rp.lt x hx).1
      refine ⟨_, rfl, p, R.map (fun x : Nat => (x : Int)), rfl, by rw [← nl_ints]; exact SqL.of p1, fun ns' a hperm hsr ha => ?_⟩
      rw [sorted_nl hperm hsr O.rp.nd hlt]
      have hm : ∀ x, x ∈ (List.range n).filter (fun x => decide (x ∈ R)) ↔ x ∈ R := fun x => by
        rw [List.mem_filter]
        constructor
        · intro h; simpa using h.2
        · intro h; exact ⟨by simpa using hlt x h, by simpa using h⟩
      exact q a _ _ (s1.trans (same_new ha)) (s1.free ha) upd_same (O.rp.perm (List.Pairwise.filter _ List.nodup_range) hm) fun x hx z hz hA => (hm z).mpr (hcl x ((hm x).mp hx) z hz hA)
/-- a list of lists of numbers at l -/
structure RsAt (H : Hp) (l : Addr) (rows : List (List Nat)) : Prop where
  ex : ∃ rs : List Addr, H l = some (.lst (rs.map V.ref)) ∧ rs.length = rows.length ∧ ∀ (j : Nat) (r : Addr) (R : List Nat), rs[j]? = some r → rows[j]? = some R → H r = some (.lst (nl R))
/-- the rows at ra, what they hold at sa -/
structure CompSt (H0 H : Hp) (ra sa : Addr) (rows : List (List Nat)) : Prop where
  sm : Same H0 H
  n1 : H0 ra = none
  n2 : H0 sa = none
  ne : ra ≠ sa
  hs : H sa = some (.lst (nl rows.flatten))
  ex : ∃ rs : List Addr, H ra = some (.lst (rs.map V.ref)) ∧ rs.length = rows.length ∧ (∀ r ∈ rs, r ≠ ra ∧ r ≠ sa) ∧ ∀ (j : Nat) (r : Addr) (R : List Nat), rs[j]? = some r → rows[j]? = some R → H r = some (.lst (nl R))
theorem CompSt.rs {H0 H : Hp} {ra sa : Addr} {rows : List (List Nat)} (h : CompSt H0 H ra sa rows) : RsAt H ra rows := by
  obtain ⟨rs, h1, h2, _, h3⟩ := h.ex
  exact ⟨rs, h1, h2, h3⟩
theorem CompSt.add {H0 H H2 : Hp} {ra sa r : Addr} {rows : List (List Nat)} {R : List Nat} (h : CompSt H0 H ra sa rows) (s : Same H H2) (hr : H r = none) (e : H2 r = some (.lst (nl R))) {xs : List V} (ex : H2 ra = some (.lst xs)) :
    CompSt H0 (upd (upd H2 ra (.lst (xs ++ [.ref r]))) sa (.lst (nl rows.flatten ++ nl R))) ra sa (rows ++ [R]) := by
  obtain ⟨rs, h1, h2, h3, h4⟩ := h.ex
  rw [s _ _ h1] at ex
  cases ex
  have n1 : r ≠ ra := (ne_of_none h1 hr).symm
  have n2 : r ≠ sa := (ne_of_none h.hs hr).symm
  refine ⟨?_, h.n1, h.n2, h.ne, ?_, rs ++ [r], ?_, by simp [h2], ?_, ?_⟩
  · exact keepS (h.sm.trans s) ((Keep.put (S := [ra, sa]) (by simp)).trans (Keep.put (by simp))) fun c hc => by
      rcases List.mem_cons.mp hc with e | hc
      · rw [e]; exact h.n1
      · rw [List.mem_singleton.mp hc]; exact h.n2
  · rw [upd_same, List.flatten_append, nl_app]; simp
  · rw [upd_ne h.ne, upd_same, List.map_append]; rfl
  · intro x hx
    rcases List.mem_append.mp hx with hx | hx
    · exact h3 x hx
    · rw [List.mem_singleton.mp hx]; exact ⟨n1, n2⟩
  · intro j x S hj hS
    by_cases hlt : j < rs.length
    · rw [List.getElem?_append_left hlt] at hj
      rw [List.getElem?_append_left (by omega)] at hS
      obtain ⟨q1, q2⟩ := h3 x (List.mem_of_getElem? hj)
      rw [upd_ne q2, upd_ne q1]
      exact s _ _ (h4 j x S hj hS)
    · rw [List.getElem?_append_right (by omega)] at hj hS
      have hj0 : j - rs.length = 0 := by
        have := (List.getElem?_eq_some_iff.mp hj).1
        simp at this
        omega
      rw [← h2, hj0] at hS
      rw [hj0] at hj
      cases hj
      cases hS
      rw [upd_ne n2, upd_ne n1]; exact e
def spComps : Sp := fun vs H Q _ => ∃ (ar ga : Addr) (n : Nat) (lk : Nat → List Nat) (A : List Nat), vs = [.ref ar, .ref ga] ∧ Gr n lk ∧ n ≤ 40 ∧ RL H ar n lk ∧ H ga = some (.lst (nl A)) ∧
  ∀ (l : Addr) (rows : List (List Nat)) (H' : Hp), Same H H' → H l = none → RsAt H' l rows → CRows n lk A n rows → Q (.ref l) H'
abbrev sComps : Stmt := top 36
theorem scComps : FnScope ["_law_around_here", "_law_gone", "_law_rows", "_law_seen", "_law_v", "_law_row"] ["_law_around_here", "_law_gone"] (defScope sComps) := ⟨rfl, rfl, rfl, by decide +kernel, rfl, by decide +kernel, by decide +kernel⟩
theorem ok_comps (D : Dfn K mg "_law_components" sComps ["_law_around_here", "_law_gone"]) (m_range : mg "range" = none) (m_len : mg "len" = none) (c__law_reach : Cal P w K mg base 1 "_law_reach" spReach5) :
    Cal P w K mg base 2 "_law_components" spComps := by
  refine D.cal scComps (fun vs H Q E h => ?_) (fun f cdv A outer s H vs Q E hr h => ?_)
  · obtain ⟨ar, ga, n, lk, A, rfl, _⟩ := h
    rfl
  · obtain ⟨ar, ga, n, lk, G0, rfl, G, hn, rl, hga, q⟩ := h
    obtain ⟨rs, r1, r2⟩ := rl.ex
    have hrs : (rs.map V.ref).length = n := by rw [List.length_map, r2.len]
    refine ⟨_, (pss_cons (ps_set (i := 2) scComps.nd rfl (Or.inl rfl) (pe_lst pa_nil))
      (pss_cons (ps_set (i := 3) scComps.nd rfl (Or.inl rfl) (pe_lst pa_nil))
      (pss_cons (ps_for PassesOwn.never rfl (pi_range1 (by rfl) m_range (pa_cons (pe_callB call_len_seq (by rfl) m_len PySem.boot_len (pa_cons (pv 0) pa_nil)) pa_nil)) (pg_name (i := 4) scComps.nd rfl (Or.inl rfl))
        (pss_one (ps_if (PW.pt (pw_and (pt_cmpR op_notIn_seq (pv 4) (pv 1) rfl) (pw_and1 (pt_cmpR op_notIn_seq (pv 4) (pv 3) rfl))))
          (pss_cons (ps_set (i := 5) scComps.nd rfl (Or.inl rfl) (qe_c c__law_reach hr (by decide) (by rfl) (pa_cons (pv 0) (pa_cons (pv 4) (pa_cons (pv 1) pa_nil)))))
          (pss_cons (ps_expr (pe_bm PySem.F.plainAttrs_list PySem.F.slot_list_append PySem.F.type_list_append mt_append (pv 2) (pa_cons (pv 5) pa_nil)))
          (pss_one (ps_expr (pe_bm PySem.F.plainAttrs_list PySem.F.slot_list_extend PySem.F.type_list_extend mt_extend (pv 3) (pa_cons (pv 5) pa_nil))))))
          pss_nil)))
      (pss_one (ps_ret (pv 2)))))), ?_⟩
    refine ⟨Nat.zero_le _, fun ra nra => ⟨Nat.zero_le _, fun sa nsa => ?_⟩⟩
    have s0 : Same H (upd H ra (.lst [])) := same_new nra
    have s1 := s0.trans (same_new nsa (o := .lst []))
    have hne : ra ≠ sa := fun e => by rw [e, upd_same] at nsa; cases nsa
    refine ⟨_, rfl, ar, _, rfl, .inl (SqL.of (s1 _ _ r1)), _, rfl, by omega, by omega, for_rng0 (n := (rs.map V.ref).length) (fun i σ H' => ∃ (rows : List (List Nat)) (v4 v5 : Option V), σ = [some (.ref ar), some (.ref ga), some (.ref ra), some (.ref sa), v4, v5] ∧
        CompSt H H' ra sa rows ∧ CRows n lk G0 i rows) ⟨[], _, _, rfl, ⟨s1, nra, s0.free nsa, hne, upd_same, [], by rw [upd_ne hne, upd_same]; rfl, rfl, by simp, by simp⟩, .nil⟩ ?_ ?_⟩
    · rintro i σ H1 hi ⟨rows, v4, v5, rfl, S, C⟩
      refine ⟨_, rfl, _, rfl, ga, _, rfl, .inl (SqL.of (S.sm _ _ hga)), rfl, flat_nl _, ?_⟩
      by_cases hA : i ∈ G0
      · exact ⟨false, notin_f hA, rows, _, _, rfl, S, C.skip (.inl hA)⟩
      refine ⟨true, notin_t hA, _, rfl, _, rfl, sa, _, rfl, .inl (SqL.of S.hs), rfl, flat_nl _, ?_⟩
      by_cases hin : i ∈ rows.flatten
      · exact ⟨false, notin_f hin, rows, _, _, rfl, S, C.skip (.inr hin)⟩
      refine ⟨true, notin_t hin, ?_⟩
      have hin' : i < n := by omega
      refine ⟨_, rfl, _, rfl, _, rfl, ar, ga, n, i, lk, G0, rfl, G, hn, rl.same S.sm, S.sm _ _ hga, hin', hA, fun r R H2 s2 nr hr2 rp cl => ?_⟩
      obtain ⟨us, u1, u2, u3, u4⟩ := S.ex
      have hrl := C.rlen
      have C' := C.add G hA hin rp cl
      have hfl := C'.len
      rw [List.flatten_append] at hfl
      have e1 : [R].flatten = R := by simp
      rw [e1, List.length_append] at hfl
      have n1 : r ≠ ra := (ne_of_none u1 nr).symm
      refine ⟨_, rfl, .inl ⟨rfl, _, SqL.of (s2 _ _ u1)⟩, _, rfl, ra, _, _, rfl, rfl, s2 _ _ u1, by rw [List.length_map, u2]; exact small_le (m := 40) (by omega) (by decide), ?_⟩
      have hs3 := s2 _ _ S.hs
      refine ⟨_, rfl, .inl ⟨rfl, _, SqL.of (by rw [upd_ne hne.symm]; exact hs3)⟩, _, rfl, sa, r, _, _, rfl, rfl, by rw [upd_ne hne.symm]; exact hs3, by rw [upd_ne n1]; exact hr2, ?_, ?_⟩
      · rw [nl_len, nl_len]
        exact Nat.le_of_lt (small_le (m := 40) (by omega) (by decide))
      · exact ⟨_, _, _, rfl, S.add s2 nr hr2 (s2 _ _ u1), C'⟩
    · rintro σ H1 ⟨rows, v4, v5, rfl, S, C⟩
      rw [hrs] at C
      exact ⟨_, rfl, q ra rows H1 S.sm nra S.rs C⟩
end
end Cherry
namespace Cherry
open PySem PySem.Spec PyProof.Rows L2
abbrev prs (ms : List (Nat × Nat)) : List Nat := ms.flatMap fun e => [e.1, e.2]
/-- a matching as a list of edges -/
structure MOk (es ms : List (Nat × Nat)) : Prop where
  sub : ∀ e ∈ ms, e ∈ es
  asc : ms.Pairwise ltE
  dis : (prs ms).Nodup
  len : ms.length ≤ 40
theorem mem_edgesOf {p : Nat → Option Nat} : ∀ {i : Nat} {e : Nat × Nat}, e ∈ edgesOf i p → e.1 < i ∧ p e.1 = some e.2 ∧ e.1 < e.2
  | 0, e, h => by simp [edgesOf] at h
  | i + 1, e, h => by
    rw [edgesOf_succ] at h
    rcases List.mem_append.mp h with h | h
    · have := mem_edgesOf h
      exact ⟨by omega, this.2⟩
    · cases hp : p i with
      | none => rw [hp] at h; simp at h
      | some y =>
        rw [hp] at h
        simp only at h
        by_cases hlt : i < y
        · rw [if_pos hlt] at h
          rw [List.mem_singleton.mp h]
          exact ⟨by simp, hp, hlt⟩
        · rw [if_neg hlt] at h; simp at h
theorem mem_prs {ms : List (Nat × Nat)} {x : Nat} : x ∈ prs ms ↔ ∃ e ∈ ms, x = e.1 ∨ x = e.2 := by
  unfold prs
  rw [List.mem_flatMap]
  simp
theorem edgesOf_ok {n : Nat} {es : List (Nat × Nat)} {p : Nat → Option Nat} (ok : EOk n es) (M : Mt (lks n es) p) : MOk es (edgesOf n p) := by
  refine ⟨fun e he => ?_, ?_, ?_, Nat.le_trans (edgesOf_len n p) ok.n40⟩
  · obtain ⟨h1, h2, h3⟩ := mem_edgesOf he
    obtain ⟨_, h | h⟩ := mem_lks.mp (M.adj _ _ h2)
    · exact h
    · have := ok.lt _ h
      simp only at this
      omega
  · have : ∀ i, (edgesOf i p).Pairwise ltE := by
      intro i
      induction i with
      | zero => simp [edgesOf]
      | succ i ih =>
        rw [edgesOf_succ]
        refine List.pairwise_append.mpr ⟨ih, ?_, fun a ha b hb => ?_⟩
        · cases p i with
          | none => simp
          | some y => simp only; split <;> simp
        · cases hp : p i with
          | none => rw [hp] at hb; simp at hb
          | some y =>
            rw [hp] at hb
            simp only at hb
            split at hb
            · rw [List.mem_singleton.mp hb]
              exact .inl (mem_edgesOf ha).1
            · simp at hb
    exact this n
  · have : ∀ i, (prs (edgesOf i p)).Nodup := by
      intro i
      induction i with
      | zero => simp [edgesOf, prs]
      | succ i ih =>
        rw [edgesOf_succ]
        cases hp : p i with
        | none => simpa using ih
        | some y =>
          simp only
          by_cases hlt : i < y
          · rw [if_pos hlt]
            have e1 : prs (edgesOf i p ++ [(i, y)]) = prs (edgesOf i p) ++ [i, y] := by simp [prs, List.flatMap_append]
            rw [e1]
            refine List.nodup_append.mpr ⟨ih, by simp; omega, fun a ha b hb hab => ?_⟩
            subst hab
            obtain ⟨e, he, hx⟩ := mem_prs.mp ha
            obtain ⟨h1, h2, h3⟩ := mem_edgesOf he
            have hb : a = i ∨ a = y := by simpa using hb
            rcases hb with hb | hb
            · rcases hx with hx | hx
              · omega
              · rw [← hx, hb] at h2
                have := M.sym _ _ h2
                rw [hp] at this
                have := Option.some.inj this
                omega
            · rcases hx with hx | hx
              · omega
              · rw [← hx, hb] at h2
                have := M.inj h2 hp
                omega
          · rw [if_neg hlt]; simpa using ih
    exact this n
theorem Tups.dpAll {K : PySem.W.Frag} {H : Hp} : ∀ {ts : List Addr} {es : List (Nat × Nat)}, Tups H ts es → DpAll K H (ts.map V.ref) (es.map pdT)
  | [], [], _ => .nil
  | [], e :: es, h => by have := h.len; simp at this
  | t :: ts, [], h => by have := h.len; simp at this
  | t :: ts, e :: es, h => .cons (dp_tup (h.at_ 0 t e rfl rfl)) (Tups.dpAll ⟨by have := h.len; simpa using this, fun i t' e' h1 h2 => h.at_ (i + 1) t' e' (by simpa using h1) (by simpa using h2)⟩)
theorem shaped_all (es : List (Nat × Nat)) : SeqAt.shaped (.list (es.map pdT)) = true := by
  have h1 : PyData.canLayAll0 (es.map pdT) = true := by
    induction es with
    | nil => rfl
    | cons e es ih =>
      show (PyData.canLay0 (pdT e) && PyData.canLayAll0 (es.map pdT)) = true
      rw [ih]
      simp [PyData.canLay0, PyData.canLayAll0]
  have h2 : PyData.depthAll (es.map pdT) ≤ 1 := by
    induction es with
    | nil => simp [PyData.depthAll]
    | cons e es ih =>
      have ih := ih (by
        have : PyData.canLayAll0 ((e :: es).map pdT) = (PyData.canLay0 (pdT e) && PyData.canLayAll0 (es.map pdT)) := rfl
        rw [this] at h1
        exact (Bool.and_eq_true_iff.mp h1).2)
      simp only [List.map_cons, PyData.depthAll, PyData.depth]
      omega
  show (PyData.canLayAll0 (es.map pdT) && decide (PyData.depthAll (es.map pdT) + 1 ≤ 64)) = true
  rw [h1, decide_eq_true (by omega)]; rfl
theorem room65 {k : Nat} {A : Around} (hr : Room k A) : A.units + 65 < cLine := by have := hr.un; omega
theorem any_pdT {es : List (Nat × Nat)} {e : Nat × Nat} (h : e ∈ es) : (es.map pdT).any (fun z => PyData.eqv z (pdT e)) = true := by
  rw [List.any_eq_true]
  exact ⟨pdT e, List.mem_map.mpr ⟨e, h, rfl⟩, by rw [eqv_pdT]; simp⟩
section
variable {P : Program} {w : World} {K : PySem.W.Frag} {mg : Str → Option Value} {base : Heap}
def spIsMat : Sp := fun vs H Q _ => ∃ (ea ma : Addr) (es ms : List (Nat × Nat)), vs = [.ref ea, .ref ma] ∧ PL H ea es ∧ PL H ma ms ∧ MOk es ms ∧ ∀ H', Same H H' → Q (.bl true) H'
abbrev sIsMat : Stmt := top 37
theorem scIsMat : FnScope ["_law_edges_here", "_law_row", "_law_seen", "_law_k", "_law_v"] ["_law_edges_here", "_law_row"] (defScope sIsMat) := ⟨rfl, rfl, rfl, by decide +kernel, rfl, by decide +kernel, by decide +kernel⟩
theorem ok_ismat (D : Dfn K mg "_law_is_matching" sIsMat ["_law_edges_here", "_law_row"]) (m_isinstance : mg "isinstance" = none) (m_range : mg "range" = none) (m_len : mg "len" = none) (m_list : mg "list" = none) (m_tuple : mg "tuple" = none) (m_bool : mg "bool" = none) :
    Cal P w K mg base 1 "_law_is_matching" spIsMat := by
  refine D.cal scIsMat (fun vs H Q E h => ?_) (fun f cdv A outer s H vs Q E hr h => ?_)
  · obtain ⟨ea, ma, es, ms, rfl, _⟩ := h
    rfl
  · obtain ⟨ea, ma, es, ms, rfl, pe, pm, M, q⟩ := h
    obtain ⟨ts, e1, e2⟩ := pe.ex
    obtain ⟨us, m1, m2⟩ := pm.ex
    have hul : (us.map V.ref).length ≤ 40 := by rw [List.length_map, m2.len]; exact M.len
    refine ⟨_, (pss_cons (ps_if (pt_not (pt_val (pe_callB call_isi (by rfl) m_isinstance (by decide +kernel) (pa_cons (pv 1) (pa_cons (pe_bltn (v := .ty "list") (u := .type "list") (by rfl) m_list (by decide +kernel) rfl) pa_nil)))))
        (pss_one (ps_ret pe_bl))
        pss_nil)
      (pss_cons (ps_set (i := 2) scIsMat.nd rfl (Or.inr rfl) (pe_lst pa_nil))
      (pss_cons (ps_for PassesOwn.never rfl (pi_range1 (by rfl) m_range (pa_cons (pe_callB call_len_seq (by rfl) m_len PySem.boot_len (pa_cons (pv 1) pa_nil)) pa_nil)) (pg_name (i := 3) scIsMat.nd rfl (Or.inl rfl))
        (pss_cons (ps_if (PW.pt (pw_or (pt_not (pt_val (pe_callB call_isi (by rfl) m_isinstance (by decide +kernel) (pa_cons (pe_ix ix_list (pv 1) (pv 3) (fun _ _ => rfl)) (pa_cons (pe_bltn (v := .ty "tuple") (u := .type "tuple") (by rfl) m_tuple (by decide +kernel) rfl) pa_nil))))) (pw_or1 (pt_cmpR (op_notInD (room65 hr)) (pe_ix ix_list (pv 1) (pv 3) (fun _ _ => rfl)) (pv 0) rfl))))
          (pss_one (ps_ret pe_bl))
          pss_nil)
        (pss_cons (ps_if (PW.pt (pw_or (pt_cmpR op_gt (pe_callB call_len_seq (by rfl) m_len PySem.boot_len (pa_cons (pe_lc (own := [("_law_v", 4)]) (g := (gName 4)) (by rfl) scIsMat.nd (pi_tup (pe_ix ix_list (pv 1) (pv 3) (fun _ _ => rfl))) (blkOk_by (own := [("_law_v", 4)]) (N := ["_law_edges_here", "_law_row", "_law_seen", "_law_k", "_law_v"]) (sc := defScope sIsMat) (by decide +kernel)) (fun _ _ _ _ _ => (pg_name (i := 4) scIsMat.nd rfl (Or.inl rfl))) (fun _ _ _ _ _ => (pts_one (PW.pt (pw_or (pt_val (pe_callB (isik K rfl) (by rfl) m_isinstance (by decide +kernel) (pa_cons (pv 4) (pa_cons (pe_bltn (v := .ty "bool") (u := .type "bool") (by rfl) m_bool (by decide +kernel) rfl) pa_nil)))) (pw_or1 (pt_cmpR (inSk K rfl) (pv 4) (pv 2) rfl)))))) (fun _ _ _ _ _ => (pv 4))) pa_nil)) pe_int (nomark _)) (pw_or1 (PW.pt (pw_and (pt_cmpR op_gt (pv 3) pe_int (nomark _)) (pw_and1 (pt_cmpR (op_leT hr.units0) (pe_ix ix_list (pv 1) (pv 3) (fun _ _ => rfl)) (pe_ix ix_list (pv 1) (pe_op op_sub (pv 3) pe_int) (fun _ _ => rfl)) (nomark _))))))))
          (pss_one (ps_ret pe_bl))
          pss_nil)
        (pss_one (ps_expr (pe_bm PySem.F.plainAttrs_list PySem.F.slot_list_extend PySem.F.type_list_extend mt_extend (pv 2) (pa_cons (pe_callTy call_list_of (by rfl) m_list (by decide +kernel) (pa_cons (pe_ix ix_list (pv 1) (pv 3) (fun _ _ => rfl)) pa_nil)) pa_nil)))))))
      (pss_one (ps_ret pe_bl))))), ?_⟩
    refine ⟨_, rfl, _, _, _, _, true, rfl, .ty _, .base (.lst m1), kit_ty k_ll, true, rfl, ?_⟩
    refine ⟨Nat.zero_le _, fun sa nsa => ?_⟩
    have s0 : Same H (upd H sa (.lst [])) := same_new nsa
    refine ⟨_, rfl, ma, _, rfl, .inl (SqL.of (s0 _ _ m1)), _, rfl, by omega, by omega, for_rng0 (n := (us.map V.ref).length) (fun i σ H' => ∃ (v3 : Option V), σ = [some (.ref ea), some (.ref ma), some (.ref sa), v3, none] ∧ Same H H' ∧ H' sa = some (.lst (nl (prs (ms.take i))))) ⟨_, rfl, s0, upd_same⟩ ?_ ?_⟩
    · rintro i σ H1 hi ⟨v3, rfl, s1, sa1⟩
      have hi' : i < ms.length := by rw [List.length_map, m2.len] at hi; exact hi
      have hml := M.len
      obtain ⟨t, a1, a2, a3⟩ := m2.get' (List.getElem?_eq_getElem hi')
      have hx : ms[i]? = some ms[i] := List.getElem?_eq_getElem hi'
      generalize ms[i] = e at *
      have hem := List.mem_of_getElem? hx
      have hpr : prs (ms.take (i + 1)) = prs (ms.take i) ++ [e.1, e.2] := by rw [List.take_add_one, hx]; simp [prs, List.flatMap_append]
      have hdis : (prs (ms.take i) ++ [e.1, e.2]).Nodup := by
        rw [← hpr]
        have : prs ms = prs (ms.take (i + 1)) ++ prs (ms.drop (i + 1)) := by
          unfold prs
          rw [← List.flatMap_append, List.take_append_drop]
        have hd := M.dis
        rw [this] at hd
        exact (List.nodup_append.mp hd).1
      have hni : ∀ x ∈ [e.1, e.2], x ∉ prs (ms.take i) := fun x hx' hm => (List.nodup_append.mp hdis).2.2 x hm x hx' rfl
      have hsl : (prs (ms.take i)).length ≤ 80 := by
        have : ∀ l : List (Nat × Nat), (prs l).length = 2 * l.length := fun l => by
          induction l with
          | nil => rfl
          | cons a l ih => simp [prs, List.flatMap_cons] at ih ⊢; omega
        rw [this, List.length_take]; omega
      have t1 := s1 _ _ a3
      refine ⟨_, rfl, _, rfl, ma, _, _, _, rfl, rfl, SqL.of (s1 _ _ m1), atI_nat a2, _, _, _, _, true, rfl, .ty _, .base (.tup t1), kit_ty k_tt, true, rfl, ?_⟩
      refine ⟨_, rfl, _, rfl, ma, _, _, _, rfl, rfl, SqL.of (s1 _ _ m1), atI_nat a2, _, rfl, pdT e, es.map pdT, dp_tup t1, .lst (SqL.of (s1 _ _ e1)) (e2.tk (TK.same s1)).dpAll, shaped_pdT e, shaped_all es, false, (by rw [any_pdT (M.sub e hem)]; rfl), ?_⟩
      refine ⟨_, rfl, _, rfl, ma, _, _, _, rfl, rfl, SqL.of (s1 _ _ m1), atI_nat a2, t, rfl, ⟨_, SqT.of t1⟩, fun D2 hD2 => lc_tup (K := K) (a := t) (xs := [vi e.1, vi e.2]) (fun _ H' => Same H1 H' ∧ H' D2 = some (.lst []))
        ⟨same_new hD2, upd_same⟩ (fun i H' _ h => SqT.of (h.1 _ _ t1)) ?_ ?_⟩
      · rintro j x H2 hx2 ⟨s2, d2⟩
        obtain ⟨y, hy, rfl⟩ : ∃ y, y ∈ [e.1, e.2] ∧ x = vi y := by
          have := List.mem_of_getElem? hx2
          rcases List.mem_cons.mp this with h | h
          · exact ⟨e.1, by simp, h⟩
          · exact ⟨e.2, by simp, List.mem_singleton.mp h⟩
        refine ⟨rfl, _, rfl, _, _, _, _, false, rfl, .ty _, .base (.int _), kit_ty k_ib, false, rfl, ?_⟩
        exact ⟨_, rfl, _, rfl, sa, _, rfl, .inl (SqL.of (s2 _ _ sa1)), rfl, flat_nl _, false, (show V.bl (inV (vi y) (nl (prs (ms.take i)))) = V.bl false by rw [in_nl, decide_eq_false (hni y hy)]), s2, d2⟩
      rintro H2 ⟨s2, d2⟩
      have s12 := s1.trans s2
      have t2 := s2 _ _ t1
      refine ⟨D2, _, rfl, .inl (SqL.of d2), _, _, rfl, rfl, false, rfl, ?_⟩
      have sa2 := s2 _ _ sa1
      cases i with
      | zero =>
        refine ⟨_, rfl, _, _, rfl, rfl, false, bF (by simp), ?_⟩
        refine ⟨_, rfl, .inl ⟨rfl, _, SqL.of sa2⟩, _, rfl, _, rfl, ma, _, _, _, rfl, rfl, SqL.of (s12 _ _ m1), atI_nat a2, t, _, rfl, .inr (SqT.of t2), fun l hl => ⟨sa, l, _, _, rfl, rfl, (by rw [upd_ne (ne_of_none sa2 hl)]; exact sa2), upd_same, ?_, _, rfl, ?_, ?_⟩⟩
        · rw [nl_len]
          exact Nat.le_of_lt (small_le (m := 82) (by simp only [List.length_cons, List.length_nil]; omega) (by decide))
        · exact keepS (s12.trans (same_new hl)) (Keep.put (S := [sa]) (by simp)) (by simpa using nsa)
        · rw [upd_same, hpr, nl_app]; rfl
      | succ i =>
        obtain ⟨t', b1, b2, b3⟩ := m2.get' (List.getElem?_eq_getElem (show i < ms.length by omega))
        have hx' : ms[i]? = some ms[i] := List.getElem?_eq_getElem (by omega)
        generalize ms[i] = e' at *
        have hlt : ltE e' e := by
          have := List.pairwise_iff_getElem.mp M.asc i (i + 1) (by omega) hi' (by omega)
          rw [List.getElem?_eq_getElem (by omega)] at hx hx'
          rw [Option.some.inj hx, Option.some.inj hx'] at this
          exact this
        refine ⟨_, rfl, _, _, rfl, rfl, true, bT (by omega), ?_⟩
        have hix : ((((i + 1 : Nat) : Int)) - 1) = (i : Int) := by omega
        refine ⟨_, rfl, _, rfl, ma, _, _, _, rfl, rfl, SqL.of (s12 _ _ m1), atI_nat a2, _, rfl, _, rfl, _, _, rfl, rfl, ma, _, _, _, rfl, rfl, SqL.of (s12 _ _ m1), (by rw [hix]; exact atI_nat b2), t, t', [(e.1 : Int), (e.2 : Int)], [(e'.1 : Int), (e'.2 : Int)], rfl, rfl, SqT.of t2, SqT.of (s12 _ _ b3), false, ?_, ?_⟩
        · rw [leT_false]
          unfold ltE at hlt
          omega
        refine ⟨_, rfl, .inl ⟨rfl, _, SqL.of sa2⟩, _, rfl, _, rfl, ma, _, _, _, rfl, rfl, SqL.of (s12 _ _ m1), atI_nat a2, t, _, rfl, .inr (SqT.of t2), fun l hl => ⟨sa, l, _, _, rfl, rfl, (by rw [upd_ne (ne_of_none sa2 hl)]; exact sa2), upd_same, ?_, _, rfl, ?_, ?_⟩⟩
        · rw [nl_len]
          exact Nat.le_of_lt (small_le (m := 82) (by simp only [List.length_cons, List.length_nil]; omega) (by decide))
        · exact keepS (s12.trans (same_new hl)) (Keep.put (S := [sa]) (by simp)) (by simpa using nsa)
        · rw [upd_same, hpr, nl_app]; rfl
    · rintro σ H1 ⟨v3, rfl, s1, sa1⟩
      exact q H1 s1
end
end Cherry
namespace Cherry
open PySem PySem.Spec PyProof.Rows L2
theorem near_asc (n : Nat) (lk : Nat → List Nat) (left : List Nat) : (near n lk left).Pairwise (· < ·) := by
  unfold near
  exact List.Pairwise.filter _ List.pairwise_lt_range
theorem near_lt {n : Nat} {lk : Nat → List Nat} {left : List Nat} : ∀ x ∈ near n lk left, x < n := fun x hx => by
  unfold near at hx
  have := (List.mem_filter.mp hx).1
  simpa using this
section
variable {P : Program} {w : World} {K : PySem.W.Frag} {mg : Str → Option Value} {base : Heap}
def spIsGr : Sp := fun vs H Q _ => ∃ (ea ar t ma na : Addr) (n : Nat) (es : List (Nat × Nat)) (p : Nat → Option Nat) (left : List Nat), vs = [vi n, .ref ea, .ref ar, .ref t] ∧ PL H ea es ∧ EOk n es ∧ RL H ar n (lks n es) ∧
  Mt (lks n es) p ∧ (∀ v, v < n → p v = none → Block (lks n es) p v) ∧ leftOut n (lks n es) p = some left ∧ H t = some (.tup [.ref ma, .ref na]) ∧ PL H ma (edgesOf n p) ∧ H na = some (.lst (nl (near n (lks n es) left))) ∧
  ∀ H', Same H H' → Q (.bl true) H'
abbrev sIsGr : Stmt := top 38
theorem scIsGr : FnScope ["_law_nodes", "_law_edges_here", "_law_around_here", "_law_told", "_law_barrier", "_law_k", "_law_v", "_law_odd", "_law_part"] ["_law_nodes", "_law_edges_here", "_law_around_here", "_law_told"] (defScope sIsGr) := ⟨rfl, rfl, rfl, by decide +kernel, rfl, by decide +kernel, by decide +kernel⟩
theorem ok_isgr (D : Dfn K mg "_law_is_greatest" sIsGr ["_law_nodes", "_law_edges_here", "_law_around_here", "_law_told"]) (m_isinstance : mg "isinstance" = none) (m_range : mg "range" = none) (m_len : mg "len" = none) (m_list : mg "list" = none) (m_tuple : mg "tuple" = none) (m_bool : mg "bool" = none) (m_int : mg "int" = none)
    (c__law_is_matching : Cal P w K mg base 1 "_law_is_matching" spIsMat) (c__law_components : Cal P w K mg base 2 "_law_components" spComps) : Cal P w K mg base 3 "_law_is_greatest" spIsGr := by
  refine D.cal scIsGr (fun vs H Q E h => ?_) (fun f cdv A outer s H vs Q E hr h => ?_)
  · obtain ⟨ea, ar, t, ma, na, n, es, p, left, rfl, _⟩ := h
    rfl
  · obtain ⟨ea, ar, t, ma, na, n, es, p, left, rfl, pe, ok, rl, M, hB, hl, ht, pm, hna, q⟩ := h
    have hn := ok.n40
    have hasc := near_asc n (lks n es) left
    have hlt : ∀ x ∈ near n (lks n es) left, x < n := near_lt
    have hnl := len_le n _ (hasc.imp fun h => Nat.ne_of_lt h) hlt
    have hmain : ∀ {rows : List (List Nat)}, Rows n (lks n es) (near n (lks n es) left) rows → _ := fun R => main_eq ok.gr M hB hl R
    generalize near n (lks n es) left = G0 at *
    refine ⟨_, (pss_cons (ps_if (PW.pt (pw_or (pt_not (pt_val (pe_callB call_isi (by rfl) m_isinstance (by decide +kernel) (pa_cons (pv 3) (pa_cons (pe_bltn (v := .ty "tuple") (u := .type "tuple") (by rfl) m_tuple (by decide +kernel) rfl) pa_nil))))) (pw_or (pt_cmpR op_ne (pe_callB call_len_seq (by rfl) m_len PySem.boot_len (pa_cons (pv 3) pa_nil)) pe_int (nomark _)) (pw_or1 (pt_not (pt_val (qe_c c__law_is_matching hr (by decide) (by rfl) (pa_cons (pv 1) (pa_cons (pe_ix ix_tup (pv 3) pe_int (fun _ _ => rfl)) pa_nil)))))))))
        (pss_one (ps_ret pe_bl))
        pss_nil)
      (pss_cons (ps_set (i := 4) scIsGr.nd rfl (Or.inl rfl) (pe_ix ix_tup (pv 3) pe_int (fun _ _ => rfl)))
      (pss_cons (ps_if (pt_not (pt_val (pe_callB call_isi (by rfl) m_isinstance (by decide +kernel) (pa_cons (pv 4) (pa_cons (pe_bltn (v := .ty "list") (u := .type "list") (by rfl) m_list (by decide +kernel) rfl) pa_nil)))))
        (pss_one (ps_ret pe_bl))
        pss_nil)
      (pss_cons (ps_for PassesOwn.never rfl (pi_range1 (by rfl) m_range (pa_cons (pe_callB call_len_seq (by rfl) m_len PySem.boot_len (pa_cons (pv 4) pa_nil)) pa_nil)) (pg_name (i := 5) scIsGr.nd rfl (Or.inl rfl))
        (pss_cons (ps_set (i := 6) scIsGr.nd rfl (Or.inl rfl) (pe_ix ix_list (pv 4) (pv 5) (fun _ _ => rfl)))
        (pss_one (ps_if (PW.pt (pw_or (pt_not (pt_val (pe_callB call_isi (by rfl) m_isinstance (by decide +kernel) (pa_cons (pv 6) (pa_cons (pe_bltn (v := .ty "int") (u := .type "int") (by rfl) m_int (by decide +kernel) rfl) pa_nil))))) (pw_or (pt_val (pe_callB call_isi (by rfl) m_isinstance (by decide +kernel) (pa_cons (pv 6) (pa_cons (pe_bltn (v := .ty "bool") (u := .type "bool") (by rfl) m_bool (by decide +kernel) rfl) pa_nil)))) (pw_or (pt_cmpR op_lt (pv 6) pe_int (nomark _)) (pw_or (pt_cmpR op_ge (pv 6) (pv 0) (nomark _)) (pw_or1 (PW.pt (pw_and (pt_cmpR op_gt (pv 5) pe_int (nomark _)) (pw_and1 (pt_cmpR op_le (pv 6) (pe_ix ix_list (pv 4) (pe_op op_sub (pv 5) pe_int) (fun _ _ => rfl)) (nomark _)))))))))))
          (pss_one (ps_ret pe_bl))
          pss_nil))))
      (pss_cons (ps_setLc (i := 7) (own := [("_law_part", 8)]) (g := (gName 8)) (by rfl) scIsGr.nd rfl rfl (sw_true rfl rfl rfl (by decide +kernel)) (pi_list (qe_c c__law_components hr (by decide) (by rfl) (pa_cons (pv 2) (pa_cons (pv 4) pa_nil)))) (blkOk_by (own := [("_law_part", 8)]) (N := ["_law_nodes", "_law_edges_here", "_law_around_here", "_law_told", "_law_barrier", "_law_k", "_law_v", "_law_odd", "_law_part"]) (sc := defScope sIsGr) (by decide +kernel)) (fun _ _ _ _ _ => (pg_name (i := 8) scIsGr.nd rfl (Or.inl rfl))) (fun _ _ _ _ _ => (pts_one (pt_cmpR op_eq (pe_op op_mod (pe_callB (lenk K rfl) (by rfl) m_len PySem.boot_len (pa_cons (pv 8) pa_nil)) pe_int) pe_int (nomark _)))) (fun _ _ _ _ _ => (pv 8)))
      (pss_one (ps_ret (pe_cmpR op_eq (pe_op op_sub (pv 0) (pe_op op_mul pe_int (pe_callB call_len_seq (by rfl) m_len PySem.boot_len (pa_cons (pe_ix ix_tup (pv 3) pe_int (fun _ _ => rfl)) pa_nil)))) (pe_op op_sub (pe_callB call_len_seq (by rfl) m_len PySem.boot_len (pa_cons (pv 7) pa_nil)) (pe_callB call_len_seq (by rfl) m_len PySem.boot_len (pa_cons (pv 4) pa_nil))) (nomark _))))))))), ?_⟩
    refine ⟨_, rfl, _, _, _, _, true, rfl, .ty _, .base (.tup ht), kit_ty k_tt, true, rfl, ?_⟩
    refine ⟨_, rfl, t, _, rfl, .inr (SqT.of ht), rfl, false, rfl, ?_⟩
    refine ⟨_, rfl, _, rfl, t, _, _, _, rfl, rfl, SqT.of ht, at_of (j := 0) rfl rfl, ea, ma, es, _, rfl, pe, pm, edgesOf_ok ok M, fun H1 s1 => ⟨true, rfl, ?_⟩⟩
    refine ⟨_, rfl, t, _, _, _, rfl, rfl, SqT.of (s1 _ _ ht), at_of (j := 1) rfl rfl, ?_⟩
    have na1 := s1 _ _ hna
    refine ⟨_, rfl, _, _, _, _, true, rfl, .ty _, .base (.lst na1), kit_ty k_ll, true, rfl, ?_⟩
    refine ⟨_, rfl, na, _, rfl, .inl (SqL.of na1), _, rfl, by omega, by rw [nl_len]; omega, for_rng0 (n := (nl G0).length) (fun i σ H' => ∃ (v5 v6 v7 : Option V), σ = [some (vi n), some (.ref ea), some (.ref ar), some (.ref t), some (.ref na), v5, v6, v7, none] ∧ H' = H1) ⟨_, _, _, rfl, rfl⟩ ?_ ?_⟩
    · rintro i σ H2 hi ⟨v5, v6, v7, rfl, rfl⟩
      have hi' : i < G0.length := by rw [nl_len] at hi; exact hi
      have hx : G0[i]? = some G0[i] := List.getElem?_eq_getElem hi'
      have hxv : (nl G0)[i]? = some (vi G0[i]) := by rw [List.getElem?_map, hx]; rfl
      have hxn := hlt _ (List.getElem_mem hi')
      refine ⟨_, rfl, _, rfl, na, _, _, _, rfl, rfl, SqL.of na1, atI_nat hxv, ?_⟩
      refine ⟨_, rfl, _, _, _, _, true, rfl, .ty _, .base (.int _), kit_ty k_ii, true, rfl, ?_⟩
      refine ⟨_, rfl, _, _, _, _, false, rfl, .ty _, .base (.int _), kit_ty k_ib, false, rfl, ?_⟩
      refine ⟨_, rfl, _, _, rfl, rfl, false, bF (by omega), ?_⟩
      refine ⟨_, rfl, _, rfl, _, _, rfl, rfl, false, bF (by omega), ?_⟩
      cases i with
      | zero => exact ⟨_, rfl, _, _, rfl, rfl, false, bF (by simp), _, _, _, rfl, rfl⟩
      | succ i =>
        have hy : (nl G0)[i]? = some (vi G0[i]) := by rw [List.getElem?_map, List.getElem?_eq_getElem (by omega)]; rfl
        have hlt2 := List.pairwise_iff_getElem.mp hasc i (i + 1) (by omega) hi' (by omega)
        have hix : ((((i + 1 : Nat) : Int)) - 1) = (i : Int) := by omega
        refine ⟨_, rfl, _, _, rfl, rfl, true, bT (by omega), ?_⟩
        refine ⟨_, rfl, _, rfl, _, rfl, _, _, rfl, rfl, na, _, _, _, rfl, rfl, SqL.of na1, (by rw [hix]; exact atI_nat hy), _, _, rfl, rfl, false, bF (by omega), _, _, _, rfl, rfl⟩
    · rintro σ H2 ⟨v5, v6, v7, rfl, rfl⟩
      refine ⟨_, rfl, _, rfl, ar, na, n, _, G0, rfl, ok.gr, hn, rl.same s1, na1, fun ra rows H3 s3 nra rsa CR => ?_⟩
      obtain ⟨rs, r1, r2, r3⟩ := rsa.ex
      have hrows := hmain (CR.rows ok.gr)
      have hrl := CR.rlen
      refine ⟨ra, rfl, ⟨_, SqL.of r1⟩, fun D2 hD2 => lc_list (K := K) (a := ra) (xs := rs.map V.ref) (fun i H' => Same H3 H' ∧ ∃ zs, H' D2 = some (.lst zs) ∧ zs.length = ((rows.take i).filter fun R => decide (R.length % 2 = 1)).length)
        ⟨same_new hD2, [], upd_same, rfl⟩ (fun i H' _ h => SqL.of (h.1 _ _ r1)) ?_ ?_⟩
      · rintro i x H4 hx ⟨s4, zs, d4, hz⟩
        rw [List.getElem?_map] at hx
        cases hri : rs[i]? with
        | none => rw [hri] at hx; cases hx
        | some r =>
          rw [hri] at hx
          cases hx
          have hir : i < rows.length := by rw [← r2]; exact (List.getElem?_eq_some_iff.mp hri).1
          have hR : rows[i]? = some rows[i] := List.getElem?_eq_getElem hir
          generalize rows[i] = R at *
          have hr4 := s4 _ _ (r3 i r R hri hR)
          have htk : rows.take (i + 1) = rows.take i ++ [R] := by rw [List.take_add_one, hR]; rfl
          have hzl : zs.length ≤ 40 := by
            rw [hz]
            refine Nat.le_trans (List.length_filter_le _ _) ?_
            rw [List.length_take]; omega
          refine ⟨rfl, _, rfl, r, _, rfl, .inl (SqL.of hr4), _, _, rfl, rfl, (by show (0 : Int) < 2; decide), ?_⟩
          refine ⟨rfl, ?_⟩
          by_cases hod : R.length % 2 = 1
          · refine ⟨true, bT (congrArg V.int (by rw [nl_len]; omega)), _, rfl, zs, d4, small_le hzl (by decide), keepS s4 (Keep.put (S := [D2]) (by simp)) (by simpa using hD2), _, upd_same, ?_⟩
            rw [htk, List.filter_append, List.length_append, List.length_append, hz]
            simp [hod]
          · refine ⟨false, bF (fun h => ?_), s4, zs, d4, ?_⟩
            · injection h with h
              rw [nl_len] at h
              omega
            · rw [htk, List.filter_append, List.length_append, hz]
              simp [hod]
      · rintro H4 ⟨s4, zs, d4, hz⟩
        have hlen : (rs.map V.ref).length = rows.length := by rw [List.length_map, r2]
        rw [hlen, List.take_length] at hz
        have sA := (s1.trans s3).trans s4
        obtain ⟨us, m1, m2⟩ := (pm.same sA).ex
        have hul : (us.map V.ref).length = (edgesOf n p).length := by rw [List.length_map, m2.len]
        refine ⟨_, rfl, _, rfl, t, _, _, _, rfl, rfl, SqT.of (sA _ _ ht), at_of (j := 0) rfl rfl, ma, _, rfl, .inl (SqL.of m1), _, _, rfl, rfl, .inl ⟨by decide, by decide⟩, _, _, rfl, rfl, ?_⟩
        refine ⟨_, rfl, D2, _, rfl, .inl (SqL.of d4), _, rfl, na, _, rfl, .inl (SqL.of (sA _ _ hna)), _, _, rfl, rfl, rfl, ?_⟩
        have e : V.bl (decide (V.int ((n : Int) - 2 * ((us.map V.ref).length : Int)) = V.int ((zs.length : Int) - ((nl G0).length : Int)))) = V.bl true := bT (congrArg V.int (by rw [hul, hz, nl_len]; omega))
        show Q (V.bl (decide (V.int ((n : Int) - 2 * ((us.map V.ref).length : Int)) = V.int ((zs.length : Int) - ((nl G0).length : Int))))) H4
        rw [e]
        exact q H4 sA
def spStays (C : Addr) : Sp := fun vs H Q _ => ∃ (g ea ar : Addr) (n : Nat) (es : List (Nat × Nat)), vs = [.ref g, vi n, .ref ea, .ref ar] ∧ GraphAt C H g n es ∧ PL H ea es ∧ RL H ar n (lks n es) ∧ ∀ H', Same H H' → Q (.bl true) H'
abbrev sStays : Stmt := top 40
theorem eqv_nl {d : Nat} {H : Hp} {a b : Addr} {l : List Nat} (h1 : H a = some (.lst (nl l))) (h2 : H b = some (.lst (nl l))) (hl : l.length ≤ 100000) : EqV (d + 1) H (.ref a) (.ref b) := by
  refine .inr ⟨a, b, _, _, rfl, rfl, .inl ⟨h1, h2⟩, rfl, by rw [nl_len]; exact hl, fun i x y hx hy => ?_⟩
  rw [hx] at hy
  cases hy
  obtain ⟨z, _, rfl⟩ := nl_get hx
  exact .mono (z : Int) rfl rfl
theorem eqv_tup {d : Nat} {H : Hp} {a b : Addr} {e : Nat × Nat} (h1 : H a = some (tupV e)) (h2 : H b = some (tupV e)) : EqV (d + 1) H (.ref a) (.ref b) := by
  refine .inr ⟨a, b, _, _, rfl, rfl, .inr ⟨h1, h2⟩, rfl, by simp, fun i x y hx hy => ?_⟩
  rw [hx] at hy
  cases hy
  have := List.mem_of_getElem? hx
  rcases List.mem_cons.mp this with h | h
  · exact .mono (e.1 : Int) h h
  · exact .mono (e.2 : Int) (List.mem_singleton.mp h) (List.mem_singleton.mp h)
theorem eqv_pl {d : Nat} {H : Hp} {a b : Addr} {es : List (Nat × Nat)} (h1 : PL H a es) (h2 : PL H b es) (hl : es.length ≤ 100000) : EqV (d + 2) H (.ref a) (.ref b) := by
  obtain ⟨ts, a1, a2⟩ := h1.ex
  obtain ⟨us, b1, b2⟩ := h2.ex
  refine .inr ⟨a, b, _, _, rfl, rfl, .inl ⟨a1, b1⟩, by rw [List.length_map, List.length_map, a2.len, b2.len], by rw [List.length_map, b2.len]; exact hl, fun i x y hx hy => ?_⟩
  obtain ⟨t, e, rfl, he, _, ht⟩ := a2.get hx
  obtain ⟨u, e', rfl, he', _, hu⟩ := b2.get hy
  rw [he] at he'
  cases he'
  exact eqv_tup ht hu
theorem scStays : FnScope ["_law_graph", "_law_nodes", "_law_edges_here", "_law_around_here", "_law_v"] ["_law_graph", "_law_nodes", "_law_edges_here", "_law_around_here"] (defScope sStays) := ⟨rfl, rfl, rfl, by decide +kernel, rfl, by decide +kernel, by decide +kernel⟩
theorem ok_stays {C : Addr} (D : Dfn K mg "_law_stays" sStays ["_law_graph", "_law_nodes", "_law_edges_here", "_law_around_here"]) (TG : GTx K C) (m_range : mg "range" = none) (c__law_equal : Cal P w K mg base 8 "_law_equal" (spEq 3)) (c_neighbours : Met P w K mg base 4 C "neighbours" (spNeigh C)) :
    Cal P w K mg base 9 "_law_stays" (spStays C) := by
  refine D.cal scStays (fun vs H Q E h => ?_) (fun f cdv A outer s H vs Q E hr h => ?_)
  · obtain ⟨g, ea, ar, n, es, rfl, _⟩ := h
    rfl
  · obtain ⟨g, ea, ar, n, es, rfl, G, pe, rl, q⟩ := h
    have hn := G.ok.n40
    have hel := G.ok.len
    obtain ⟨dx, le, ll, g1, pl, _⟩ := G.ex
    obtain ⟨rs, r1, r2⟩ := rl.ex
    refine ⟨_, (pss_cons (ps_if (pt_not (pt_val (qe_c c__law_equal hr (by decide) (by rfl) (pa_cons (pe_lst (pa_cons (pe_fld (pv 0) rfl) (pa_cons (pe_fld (pv 0) rfl) pa_nil))) (pa_cons (pe_lst (pa_cons (pv 1) (pa_cons (pv 2) pa_nil))) pa_nil)))))
        (pss_one (ps_ret pe_bl))
        pss_nil)
      (pss_cons (ps_for PassesOwn.never rfl (pi_range1 (by rfl) m_range (pa_cons (pv 1) pa_nil)) (pg_name (i := 4) scStays.nd rfl (Or.inl rfl))
        (pss_one (ps_if (pt_not (pt_val (qe_c c__law_equal hr (by decide) (by rfl) (pa_cons (qe_mt c_neighbours hr (by decide) (pv 0) (pa_cons (pv 4) pa_nil)) (pa_cons (pe_ix ix_list (pv 3) (pv 4) (fun _ _ => rfl)) pa_nil)))))
          (pss_one (ps_ret pe_bl))
          pss_nil)))
      (pss_one (ps_ret pe_bl)))), ?_⟩
    refine ⟨_, rfl, g, C, dx, _, _, rfl, g1, TG.cl, TG.n1, rfl, _, rfl, g, C, dx, _, _, rfl, g1, TG.cl, TG.n2, rfl, (by show 2 ≤ sizeLine; decide), fun p1 np1 => ?_⟩
    have s1 : Same H (upd H p1 (.lst [vi n, .ref le])) := same_new np1
    refine ⟨_, rfl, _, rfl, (by show 2 ≤ sizeLine; decide), fun p2 np2 => ?_⟩
    have s2 := s1.trans (same_new np2 (o := .lst [vi n, .ref ea]))
    refine ⟨.ref p1, .ref p2, rfl, .inr ⟨p1, p2, [vi n, .ref le], [vi n, .ref ea], rfl, rfl, .inl ⟨by rw [upd_ne (ne_of_none (upd_same (H := H)) np2), upd_same], upd_same⟩, rfl, (by simp), fun i x y hx hy => ?_⟩, ?_⟩
    · match i, hx, hy with
      | 0, hx, hy =>
        cases hx
        cases hy
        exact .mono (n : Int) rfl rfl
      | 1, hx, hy =>
        cases hx
        cases hy
        exact eqv_pl (pl.same s2) (pe.same s2) (by omega)
      | i + 2, hx, _ => simp at hx
    refine ⟨true, rfl, ?_⟩
    refine ⟨_, rfl, _, rfl, by omega, by omega, for_rng0 (n := n) (fun i σ H' => ∃ v : Option V, σ = [some (.ref g), some (vi n), some (.ref ea), some (.ref ar), v] ∧ Same H H') ⟨_, rfl, s2⟩ ?_ ?_⟩
    · rintro i σ H1 hi ⟨v, rfl, s3⟩
      obtain ⟨r, a1, a2, a3⟩ := r2.get hi
      refine ⟨_, rfl, g, dx, _, rfl, s3 _ _ g1, rfl, _, rfl, g, n, i, es, rfl, G.same s3, hi, fun l H2 s4 nl2 hl2 => ?_⟩
      have s34 := s3.trans s4
      have hll := len_le n (lks n es i) (List.Pairwise.filter _ List.nodup_range) fun x hx => (mem_lks.mp hx).1
      refine ⟨_, rfl, _, rfl, ar, _, _, _, rfl, rfl, SqL.of (s34 _ _ r1), atI_nat a2, .ref l, .ref r, rfl, eqv_nl hl2 (s34 _ _ a3) (by omega), true, rfl, _, rfl, s34⟩
    · rintro σ H1 ⟨v, rfl, s3⟩
      exact q H1 s3
end
end Cherry
namespace Cherry
open PySem PySem.Spec PyProof.Rows L2
/-- what the draws hold is no list of references -/
theorem DrawsAt.refs {H : Hp} {d l b : Addr} {ts : List Addr} (D : DrawsAt H d l) (h : H b = some (.lst (ts.map V.ref))) : b ≠ d := by
  obtain ⟨a, ns, q1, _⟩ := D.ex
  intro e
  rw [e, q1] at h
  match ts, h with
  | [], h => cases h
  | [_], h => cases h
  | _ :: _ :: _, h => cases h
theorem DrawsAt.nums {H : Hp} {d l b : Addr} {xs : List Nat} (D : DrawsAt H d l) (h : H b = some (.lst (nl xs))) : b ≠ d := by
  obtain ⟨a, ns, q1, _⟩ := D.ex
  intro e
  rw [e, q1] at h
  match xs, h with
  | [], h => cases h
  | _ :: _, h => cases h
theorem PL.nd {H : Hp} {d l e : Addr} {es : List (Nat × Nat)} (h : PL H e es) (D : DrawsAt H d l) : e ≠ d := by
  obtain ⟨ts, h1, _⟩ := h.ex
  exact D.refs h1
theorem PL.kd {H H' : Hp} {d l e : Addr} {es : List (Nat × Nat)} (h : PL H e es) (D : DrawsAt H d l) (k : Keep [d] H H') : PL H' e es := by
  have hn := h.nd D
  obtain ⟨ts, h1, h2⟩ := h.ex
  exact ⟨ts, k _ _ h1 (by simpa using hn), h2.tk (D.tks k)⟩
theorem RL.kd {H H' : Hp} {d l a : Addr} {n : Nat} {lk : Nat → List Nat} (h : RL H a n lk) (D : DrawsAt H d l) (k : Keep [d] H H') : RL H' a n lk := by
  obtain ⟨rs, h1, h2⟩ := h.ex
  have hn := D.refs h1
  refine ⟨rs, k _ _ h1 (by simpa using hn), h2.len, fun i r hi => ?_⟩
  have hr := h2.at_ i r hi
  have hn := D.nums hr
  exact k _ _ hr (by simpa using hn)
theorem GraphAt.kd {C : Addr} {H H' : Hp} {d l g : Addr} {n : Nat} {es : List (Nat × Nat)} (h : GraphAt C H g n es) (D : DrawsAt H d l) (k : Keep [d] H H') : GraphAt C H' g n es := by
  obtain ⟨dx, le, ll, h1, h2, h3⟩ := h.ex
  have hn : g ≠ d := fun e => by
    obtain ⟨a, ns, q1, _⟩ := D.ex
    rw [e, q1] at h1
    cases h1
  exact ⟨⟨dx, le, ll, k _ _ h1 (by simpa using hn), h2.kd D k, h3.kd D k⟩, h.ok⟩
/-- the number of nodes -/
theorem nodes_at {a b c j : Int} (ha : 0 ≤ a) (hb : 0 ≤ b) (hc : 0 ≤ c) (hj : 0 ≤ j) : ∃ n : Nat, n ≤ 40 ∧ atI [V.int (a % 15), V.int (b % 41), V.int (30 + c % 11)] (j % 3) = some (vi n) := by
  have h1 : j % 3 = 0 ∨ j % 3 = 1 ∨ j % 3 = 2 := by omega
  rcases h1 with h | h | h
  · refine ⟨(a % 15).toNat, by omega, ?_⟩
    rw [h, show vi (a % 15).toNat = V.int (a % 15) from congrArg V.int (by omega)]
    exact at_of (j := 0) rfl rfl
  · refine ⟨(b % 41).toNat, by omega, ?_⟩
    rw [h, show vi (b % 41).toNat = V.int (b % 41) from congrArg V.int (by omega)]
    exact at_of (j := 1) rfl rfl
  · refine ⟨(30 + c % 11).toNat, by omega, ?_⟩
    rw [h, show vi (30 + c % 11).toNat = V.int (30 + c % 11) from congrArg V.int (by omega)]
    exact at_of (j := 2) rfl rfl
theorem two_at {g1 g2 : Addr} {R : Addr → Prop} (h1 : R g1) (h2 : R g2) (i : Nat) : ∃ g, R g ∧ atI [V.ref g1, V.ref g2] ((i : Int) % 2) = some (.ref g) := by
  have h : (i : Int) % 2 = 0 ∨ (i : Int) % 2 = 1 := by omega
  rcases h with h | h
  · exact ⟨g1, h1, by rw [h]; exact at_of (j := 0) rfl rfl⟩
  · exact ⟨g2, h2, by rw [h]; exact at_of (j := 1) rfl rfl⟩
section
variable {P : Program} {w : World} {K : PySem.W.Frag} {mg : Str → Option Value} {base : Heap}
def spLaw (K : PySem.W.Frag) : Sp := fun vs H Q _ => ∃ (a : Addr) (ns : List Int), vs = [.ref a] ∧ SqL K H a (ns.map V.int) ∧ ns.length ≤ 63 ∧ ∀ H', Q (.bl true) H'
abbrev sLaw : Stmt := top 41
theorem scLaw : FnScope ["_law_script", "_law_draws", "_law_nodes", "_law_edges_here", "_law_around_here", "_law_graphs", "_law_turn", "_law_graph", "_law_told"] ["_law_script"] (defScope sLaw) := ⟨rfl, rfl, rfl, by decide +kernel, rfl, by decide +kernel, by decide +kernel⟩
theorem ok_law {f : Addr} {fd : FuncData} {C : Addr} (F : Fun K "law" "law" sLaw f fd) (m_range : mg "range" = none) (m_int : mg "int" = none) (c__law_numbers : Cal P w K mg base 2 "_law_numbers" (spNumbers K)) (c__law_draw : Cal P w K mg base 2 "_law_draw" spDraw)
    (c__law_edges : Cal P w K mg base 4 "_law_edges" spEdges) (c__law_around : Cal P w K mg base 1 "_law_around" spAround) (c__law_door : Cal P w K mg base 7 "_law_door" (spDoor C)) (c_greatest_matching : Cal P w K mg base 9 "greatest_matching" (spGM C))
    (c__law_is_greatest : Cal P w K mg base 3 "_law_is_greatest" spIsGr) (c__law_stays : Cal P w K mg base 9 "_law_stays" (spStays C)) : FnOk P w K mg base CX0 11 f fd ["_law_script"] (spLaw K) := by
  refine F.ok scLaw (fun vs H Q E h => ?_) (fun cdv A outer s H vs Q E (hr : Room 10 _) h => ?_)
  · obtain ⟨a, ns, rfl, _⟩ := h
    rfl
  · obtain ⟨a, ns, rfl, hS, hlen, q⟩ := h
    refine ⟨_, (pss_cons (ps_set (i := 1) scLaw.nd rfl (Or.inl rfl) (pe_lst (pa_cons (qe_c c__law_numbers hr (by decide) (by rfl) (pa_cons (pv 0) pa_nil)) (pa_cons pe_int pa_nil))))
      (pss_cons (ps_set (i := 2) scLaw.nd rfl (Or.inl rfl) (pe_ix ix_list (pe_lst (pa_cons (pe_op op_mod (qe_c c__law_draw hr (by decide) (by rfl) (pa_cons (pv 1) pa_nil)) pe_int) (pa_cons (pe_op op_mod (qe_c c__law_draw hr (by decide) (by rfl) (pa_cons (pv 1) pa_nil)) pe_int) (pa_cons (pe_op op_add pe_int (pe_op op_mod (qe_c c__law_draw hr (by decide) (by rfl) (pa_cons (pv 1) pa_nil)) pe_int)) pa_nil)))) (pe_op op_mod (qe_c c__law_draw hr (by decide) (by rfl) (pa_cons (pv 1) pa_nil)) pe_int) (fun _ _ => rfl)))
      (pss_cons (ps_set (i := 3) scLaw.nd rfl (Or.inl rfl) (qe_c c__law_edges hr (by decide) (by rfl) (pa_cons (pv 1) (pa_cons (pv 2) pa_nil))))
      (pss_cons (ps_set (i := 4) scLaw.nd rfl (Or.inl rfl) (qe_c c__law_around hr (by decide) (by rfl) (pa_cons (pv 2) (pa_cons (pv 3) pa_nil))))
      (pss_cons (ps_set (i := 5) scLaw.nd rfl (Or.inl rfl) (pe_lst (pa_cons (qe_c c__law_door hr (by decide) (by rfl) (pa_cons (pv 1) (pa_cons (pv 2) (pa_cons (pv 3) pa_nil)))) (pa_cons (qe_c c__law_door hr (by decide) (by rfl) (pa_cons (pv 1) (pa_cons (pv 2) (pa_cons (pv 3) pa_nil)))) pa_nil))))
      (pss_cons (ps_for PassesOwn.never rfl (pi_range1 (by rfl) m_range (pa_cons pe_int pa_nil)) (pg_name (i := 6) scLaw.nd rfl (Or.inl rfl))
        (pss_cons (ps_set (i := 7) scLaw.nd rfl (Or.inl rfl) (pe_ix ix_list (pv 5) (pe_op op_mod (pe_callTy call_int1 (by rfl) m_int (by decide +kernel) (pa_cons (pv 6) pa_nil)) pe_int) (fun _ _ => rfl)))
        (pss_cons (ps_set (i := 8) scLaw.nd rfl (Or.inl rfl) (qe_c c_greatest_matching hr (by decide) (by rfl) (pa_cons (pv 7) pa_nil)))
        (pss_cons (ps_if (PW.pt (pw_or (pt_not (pt_val (qe_c c__law_is_greatest hr (by decide) (by rfl) (pa_cons (pv 2) (pa_cons (pv 3) (pa_cons (pv 4) (pa_cons (pv 8) pa_nil))))))) (pw_or1 (pt_not (pt_val (qe_c c__law_stays hr (by decide) (by rfl) (pa_cons (pv 7) (pa_cons (pv 2) (pa_cons (pv 3) (pa_cons (pv 4) pa_nil))))))))))
          (pss_one (ps_ret pe_bl))
          pss_nil)
        (pss_cons (ps_expr (pe_bm PySem.F.plainAttrs_list PySem.F.slot_list_append PySem.F.type_list_append mt_append (pe_ix ix_tup (pv 8) pe_int (fun _ _ => rfl)) (pa_cons (pe_tup (pa_cons pe_int (pa_cons pe_int pa_nil))) pa_nil)))
        (pss_one (ps_expr (pe_bm PySem.F.plainAttrs_list PySem.F.slot_list_append PySem.F.type_list_append mt_append (pe_ix ix_tup (pv 8) pe_int (fun _ _ => rfl)) (pa_cons pe_int pa_nil)))))))))
      (pss_one (ps_ret pe_bl)))))))), ?_⟩
    refine ⟨_, rfl, a, ns, rfl, hS, hlen, fun l H1 xs s1 nl1 hl1 hxs => ⟨(by show 2 ≤ sizeLine; decide), fun d nd => ?_⟩⟩
    have nld : l ≠ d := ne_of_none hl1 nd
    have D2 : DrawsAt (upd H1 d (.lst [.ref l, .int 0])) d l := ⟨⟨0, xs, upd_same, by rw [upd_ne nld]; exact hl1, by omega, hxs⟩, nld⟩
    generalize upd H1 d (.lst [.ref l, .int 0]) = H2 at *
    -- the number of nodes
    refine ⟨_, rfl, d, l, rfl, D2, fun z1 H3 z10 z11 k3 D3 => ⟨_, _, rfl, rfl, (by show (0 : Int) < 15; decide), ?_⟩⟩
    refine ⟨_, rfl, d, l, rfl, D3, fun z2 H4 z20 z21 k4 D4 => ⟨_, _, rfl, rfl, (by show (0 : Int) < 41; decide), ?_⟩⟩
    refine ⟨_, rfl, d, l, rfl, D4, fun z3 H5 z30 z31 k5 D5 => ⟨_, _, rfl, rfl, (by show (0 : Int) < 11; decide), _, _, rfl, rfl, (by show 3 ≤ sizeLine; decide), fun p np => ?_⟩⟩
    have D5' := D5.same (same_new np (o := .lst [.int (z1 % 15), .int (z2 % 41), .int (30 + z3 % 11)]))
    refine ⟨_, rfl, d, l, rfl, D5', fun z4 H6 z40 z41 k6 D6 => ⟨_, _, rfl, rfl, (by show (0 : Int) < 3; decide), ?_⟩⟩
    have npd : p ≠ d := by
      obtain ⟨xs, ed⟩ := D5.lst
      exact (ne_of_none ed np).symm
    have hp6 := k6 p _ upd_same (by simpa using npd)
    obtain ⟨n, hn, hat⟩ := nodes_at z10 z20 z30 z40
    refine ⟨p, _, _, _, rfl, rfl, SqL.of hp6, hat, ?_⟩
    -- the edges, what stands around, the two graphs
    refine ⟨_, rfl, _, rfl, d, l, n, rfl, hn, D6, fun e H7 es k7 D7 ne7 pe7 ok => ?_⟩
    refine ⟨_, rfl, _, rfl, n, e, es, rfl, pe7, ok, fun ar H8 s8 nar rl8 => ?_⟩
    have D8 := D7.same s8
    have pe8 := pe7.same s8
    refine ⟨_, rfl, _, rfl, _, rfl, d, l, n, e, es, rfl, D8, pe8, ok, pe8.nd D8, fun g1 H9 k9 D9 ng1 G1 => ?_⟩
    have pe9 := pe8.kd D8 k9
    have rl9 := rl8.kd D8 k9
    refine ⟨_, rfl, _, rfl, _, rfl, d, l, n, e, es, rfl, D9, pe9, ok, pe9.nd D9, fun g2 H10 k10 D10 ng2 G2 => ⟨(by show 2 ≤ sizeLine; decide), fun gl ngl => ?_⟩⟩
    have s11 : Same H10 (upd H10 gl (.lst [.ref g1, .ref g2])) := same_new ngl
    have pe := (pe9.kd D9 k10).same s11
    have rl := (rl9.kd D9 k10).same s11
    have hG1 := (G1.kd D9 k10).same s11
    have hG2 := G2.same s11
    have hgl : upd H10 gl (.lst [.ref g1, .ref g2]) gl = some (.lst [.ref g1, .ref g2]) := upd_same
    generalize upd H10 gl (.lst [.ref g1, .ref g2]) = Hb at *
    obtain ⟨p', hgr, M, hB⟩ := greatest_ok ok.gr
    obtain ⟨left, hleft, _⟩ := left_ok ok.gr M hB
    refine ⟨_, rfl, by decide, by decide, for_rng0 (n := 6) (fun i σ H' => ∃ v6 v7 v8 : Option V, σ = [some (.ref a), some (.ref d), some (vi n), some (.ref e), some (.ref ar), some (.ref gl), v6, v7, v8] ∧ Same Hb H') ⟨_, _, _, rfl, .refl _⟩ ?_ ?_⟩
    · rintro i σ Hc hi ⟨v6, v7, v8, rfl, sc⟩
      obtain ⟨g, G, hg⟩ := two_at (R := fun g => GraphAt C Hb g n es) hG1 hG2 i
      refine ⟨_, rfl, _, rfl, .inl ⟨_, rfl, _, _, rfl, rfl, (by show (0 : Int) < 2; decide), gl, _, _, _, rfl, rfl, SqL.of (sc _ _ hgl), hg, ?_⟩⟩
      refine ⟨_, rfl, g, n, es, p', left, rfl, G.same sc, hgr, M, hB, hleft, fun t ea na Hd sd nea nna hne ht pl hna => ?_⟩
      have scd := sc.trans sd
      refine ⟨_, rfl, _, rfl, _, rfl, _, rfl, e, ar, t, ea, na, n, es, p', left, rfl, pe.same scd, ok, rl.same scd, M, hB, hleft, ht, pl, hna, fun He se => ⟨true, rfl, ?_⟩⟩
      have sce := scd.trans se
      refine ⟨_, rfl, _, rfl, _, rfl, _, rfl, g, e, ar, n, es, rfl, G.same sce, pe.same sce, rl.same sce, fun Hf sf => ⟨true, rfl, ?_⟩⟩
      have scf := sce.trans sf
      have sdf := se.trans sf
      have htf := sdf _ _ ht
      have hnaf := sdf _ _ hna
      obtain ⟨us, hea, hus⟩ := (pl.same sdf).ex
      have hul : (us.map V.ref).length ≤ 40 := by
        rw [List.length_map, hus.len]
        exact Nat.le_trans (edgesOf_len n p') ok.n40
      have hnl : (nl (near n (lks n es) left)).length ≤ 40 := by
        rw [nl_len]
        exact Nat.le_trans (len_le n _ ((near_asc n (lks n es) left).imp fun h => Nat.ne_of_lt h) near_lt) ok.n40
      refine ⟨_, rfl, t, _, _, _, rfl, rfl, SqT.of htf, at_of (j := 0) rfl rfl, .inl ⟨rfl, _, SqL.of hea⟩, (by show 2 ≤ sizeLine; decide), fun u hu => ?_⟩
      have su := same_new hu (o := .tup [.int 0, .int 0])
      refine ⟨ea, _, _, rfl, rfl, su _ _ hea, small_le hul (by decide), ?_⟩
      have nte : t ≠ ea := ne_of htf hea (by intro z; cases z)
      have htg := su _ _ htf
      have hnag := su _ _ hnaf
      generalize upd Hf u (.tup [.int 0, .int 0]) = Hg at *
      refine ⟨_, rfl, t, [.ref ea, .ref na], 1, .ref na, rfl, rfl, SqT.of (by rw [upd_ne nte]; exact htg), at_of (j := 1) rfl rfl, .inl ⟨rfl, _, SqL.of (by rw [upd_ne hne.symm]; exact hnag)⟩, ?_⟩
      refine ⟨na, _, _, rfl, rfl, (by rw [upd_ne hne.symm]; exact hnag), small_le hnl (by decide), ?_⟩
      refine ⟨_, _, _, rfl, ?_⟩
      refine keepS (scf.trans su) ((Keep.put (S := [ea, na]) (by simp)).trans (Keep.put (by simp))) fun c hc => ?_
      rcases List.mem_cons.mp hc with e | hc
      · rw [e]; exact sc.free nea
      · rw [List.mem_singleton.mp hc]; exact sc.free nna
    · rintro σ Hc ⟨v6, v7, v8, rfl, sc⟩
      exact q Hc
end
end Cherry
namespace Cherry
open PySem PySem.Spec PyProof.Rows L2
theorem ok_all0 {P : Program} {w : World} {K : PySem.W.Frag} {mg : Str → Option Value} {base : Heap} (D : Dfn K mg "_law_all_equal" sAll ["_law_actual", "_law_due"]) : Cal P w K mg base 1 "_law_all_equal" (spAll 0) :=
  D.cal scAll (fun vs H Q E h => h.elim) (fun f cdv A outer s H vs Q E hr h => h.elim)
theorem all_mk {l : PySem.W.OpenLaw} {w : World} {K : PySem.W.Frag} {h : Heap} {mg : Str → Option Value} {fa C C2 f1 f2 f3 f4 f5 f6 f7 f8 f9 f10 f11 f12 f13 f14 f15 f16 f17 f18 f19 f20 f21 f22 f23 f24 f25 f26 f27 f28 f29 f30 f31 f32 f33 f34 f35 f36 f37 : Addr} (X : K.In h) (G : h.Ns mainGlobals mg) (hfa : mg "law" = some (.ref fa))
    {tM : _} {od1 an1 od2 an2 od3 an3 od4 an4 od5 an5 od6 an6 od7 an7 od8 an8 od9 an9 od10 an10 od11 an11 od12 an12 od13 an13 od14 an14 od15 an15 od16 an16 od17 an17 od18 an18 od19 an19 od20 an20 od21 an21 od22 an22 od23 an23 od24 an24 od25 an25 od26 an26 od27 an27 od28 an28 od29 an29 od30 an30 od31 an31 od32 an32 od33 an33 od34 an34 od35 an35 od36 an36 od37 an37 : Option Addr} {sl1 sl2 sl3 sl4 sl5 sl6 sl7 sl8 sl9 sl10 sl11 sl12 sl13 sl14 sl15 sl16 sl17 sl18 sl19 sl20 sl21 sl22 sl23 sl24 sl25 sl26 sl27 sl28 sl29 sl30 sl31 sl32 sl33 sl34 sl35 sl36 sl37 : Array (Option Value)}
    {oc1 kV1 dc1 pm1 cd1 ct1 oc2 kV2 dc2 pm2 cd2 ct2 oc3 kV3 dc3 pm3 cd3 ct3 oc4 kV4 dc4 pm4 cd4 ct4 oc5 kV5 dc5 pm5 cd5 ct5 oc6 kV6 dc6 pm6 cd6 ct6 oc7 kV7 dc7 pm7 cd7 ct7 oc8 kV8 dc8 pm8 cd8 ct8 oc9 kV9 dc9 pm9 cd9 ct9 oc10 kV10 dc10 pm10 cd10 ct10 oc11 kV11 dc11 pm11 cd11 ct11 oc12 kV12 dc12 pm12 cd12 ct12 oc13 kV13 dc13 pm13 cd13 ct13 oc14 kV14 dc14 pm14 cd14 ct14 oc15 kV15 dc15 pm15 cd15 ct15 oc16 kV16 dc16 pm16 cd16 ct16 oc17 kV17 dc17 pm17 cd17 ct17 oc18 kV18 dc18 pm18 cd18 ct18 oc19 kV19 dc19 pm19 cd19 ct19 oc20 kV20 dc20 pm20 cd20 ct20 oc21 kV21 dc21 pm21 cd21 ct21 oc22 kV22 dc22 pm22 cd22 ct22 oc23 kV23 dc23 pm23 cd23 ct23 oc24 kV24 dc24 pm24 cd24 ct24 oc25 kV25 dc25 pm25 cd25 ct25 oc26 kV26 dc26 pm26 cd26 ct26 oc27 kV27 dc27 pm27 cd27 ct27 oc28 kV28 dc28 pm28 cd28 ct28 oc29 kV29 dc29 pm29 cd29 ct29 oc30 kV30 dc30 pm30 cd30 ct30 oc31 kV31 dc31 pm31 cd31 ct31 oc32 kV32 dc32 pm32 cd32 ct32 oc33 kV33 dc33 pm33 cd33 ct33 oc34 kV34 dc34 pm34 cd34 ct34 oc35 kV35 dc35 pm35 cd35 ct35 oc36 kV36 dc36 pm36 cd36 ct36 oc37 kV37 dc37 pm37 cd37 ct37 : Value}
    (aCGraph : PySem.W.nsIn K mainGlobals "Graph" = some (some (.ref C)))
    (aCSearch : PySem.W.nsIn K mainGlobals "Search" = some (some (.ref C2)))
    (a1 : PySem.W.nsIn K mainGlobals "_law_mixed" = some (some (.ref f1)))
    (l1 : K.lookup f1 = some ⟨oc1, od1, .func (PySem.W.fnOf "_law_mixed" "_law_mixed" (defArgs sMixed) (defBody sMixed) (defScope sMixed) .none kV1 dc1 pm1 an1 cd1 ct1), sl1⟩)
    (c1 : PySem.W.codeIn K cd1 "_law_mixed" = true)
    (k1 : PySem.W.keepIn K (.ref f1) = true)
    (a2 : PySem.W.nsIn K mainGlobals "_law_numbers" = some (some (.ref f2)))
    (l2 : K.lookup f2 = some ⟨oc2, od2, .func (PySem.W.fnOf "_law_numbers" "_law_numbers" (defArgs sNumbers) (defBody sNumbers) (defScope sNumbers) .none kV2 dc2 pm2 an2 cd2 ct2), sl2⟩)
    (c2 : PySem.W.codeIn K cd2 "_law_numbers" = true)
    (k2 : PySem.W.keepIn K (.ref f2) = true)
    (a3 : PySem.W.nsIn K mainGlobals "_law_draw" = some (some (.ref f3)))
    (l3 : K.lookup f3 = some ⟨oc3, od3, .func (PySem.W.fnOf "_law_draw" "_law_draw" (defArgs sDraw) (defBody sDraw) (defScope sDraw) .none kV3 dc3 pm3 an3 cd3 ct3), sl3⟩)
    (c3 : PySem.W.codeIn K cd3 "_law_draw" = true)
    (k3 : PySem.W.keepIn K (.ref f3) = true)
    (a4 : PySem.W.nsIn K mainGlobals "_law_equal" = some (some (.ref f4)))
    (l4 : K.lookup f4 = some ⟨oc4, od4, .func (PySem.W.fnOf "_law_equal" "_law_equal" (defArgs sEq) (defBody sEq) (defScope sEq) .none kV4 dc4 pm4 an4 cd4 ct4), sl4⟩)
    (c4 : PySem.W.codeIn K cd4 "_law_equal" = true)
    (k4 : PySem.W.keepIn K (.ref f4) = true)
    (a5 : PySem.W.nsIn K mainGlobals "_law_all_equal" = some (some (.ref f5)))
    (l5 : K.lookup f5 = some ⟨oc5, od5, .func (PySem.W.fnOf "_law_all_equal" "_law_all_equal" (defArgs sAll) (defBody sAll) (defScope sAll) .none kV5 dc5 pm5 an5 cd5 ct5), sl5⟩)
    (c5 : PySem.W.codeIn K cd5 "_law_all_equal" = true)
    (k5 : PySem.W.keepIn K (.ref f5) = true)
    (a6 : PySem.W.nsIn K mainGlobals "_law_some_pairs" = some (some (.ref f6)))
    (l6 : K.lookup f6 = some ⟨oc6, od6, .func (PySem.W.fnOf "_law_some_pairs" "_law_some_pairs" (defArgs sPairs) (defBody sPairs) (defScope sPairs) .none kV6 dc6 pm6 an6 cd6 ct6), sl6⟩)
    (c6 : PySem.W.codeIn K cd6 "_law_some_pairs" = true)
    (k6 : PySem.W.keepIn K (.ref f6) = true)
    (a7 : PySem.W.nsIn K mainGlobals "_law_turned" = some (some (.ref f7)))
    (l7 : K.lookup f7 = some ⟨oc7, od7, .func (PySem.W.fnOf "_law_turned" "_law_turned" (defArgs sTurned) (defBody sTurned) (defScope sTurned) .none kV7 dc7 pm7 an7 cd7 ct7), sl7⟩)
    (c7 : PySem.W.codeIn K cd7 "_law_turned" = true)
    (k7 : PySem.W.keepIn K (.ref f7) = true)
    (a8 : PySem.W.nsIn K mainGlobals "_law_edges" = some (some (.ref f8)))
    (l8 : K.lookup f8 = some ⟨oc8, od8, .func (PySem.W.fnOf "_law_edges" "_law_edges" (defArgs sEdges) (defBody sEdges) (defScope sEdges) .none kV8 dc8 pm8 an8 cd8 ct8), sl8⟩)
    (c8 : PySem.W.codeIn K cd8 "_law_edges" = true)
    (k8 : PySem.W.keepIn K (.ref f8) = true)
    (a9 : PySem.W.nsIn K mainGlobals "_law_around" = some (some (.ref f9)))
    (l9 : K.lookup f9 = some ⟨oc9, od9, .func (PySem.W.fnOf "_law_around" "_law_around" (defArgs sAround) (defBody sAround) (defScope sAround) .none kV9 dc9 pm9 an9 cd9 ct9), sl9⟩)
    (c9 : PySem.W.codeIn K cd9 "_law_around" = true)
    (k9 : PySem.W.keepIn K (.ref f9) = true)
    (a10 : PySem.W.nsIn K mainGlobals "_law_reach" = some (some (.ref f10)))
    (l10 : K.lookup f10 = some ⟨oc10, od10, .func (PySem.W.fnOf "_law_reach" "_law_reach" (defArgs sReach5) (defBody sReach5) (defScope sReach5) .none kV10 dc10 pm10 an10 cd10 ct10), sl10⟩)
    (c10 : PySem.W.codeIn K cd10 "_law_reach" = true)
    (k10 : PySem.W.keepIn K (.ref f10) = true)
    (a11 : PySem.W.nsIn K mainGlobals "_law_components" = some (some (.ref f11)))
    (l11 : K.lookup f11 = some ⟨oc11, od11, .func (PySem.W.fnOf "_law_components" "_law_components" (defArgs sComps) (defBody sComps) (defScope sComps) .none kV11 dc11 pm11 an11 cd11 ct11), sl11⟩)
    (c11 : PySem.W.codeIn K cd11 "_law_components" = true)
    (k11 : PySem.W.keepIn K (.ref f11) = true)
    (a12 : PySem.W.nsIn K mainGlobals "_law_is_matching" = some (some (.ref f12)))
    (l12 : K.lookup f12 = some ⟨oc12, od12, .func (PySem.W.fnOf "_law_is_matching" "_law_is_matching" (defArgs sIsMat) (defBody sIsMat) (defScope sIsMat) .none kV12 dc12 pm12 an12 cd12 ct12), sl12⟩)
    (c12 : PySem.W.codeIn K cd12 "_law_is_matching" = true)
    (k12 : PySem.W.keepIn K (.ref f12) = true)
    (a13 : PySem.W.nsIn K mainGlobals "_law_is_greatest" = some (some (.ref f13)))
    (l13 : K.lookup f13 = some ⟨oc13, od13, .func (PySem.W.fnOf "_law_is_greatest" "_law_is_greatest" (defArgs sIsGr) (defBody sIsGr) (defScope sIsGr) .none kV13 dc13 pm13 an13 cd13 ct13), sl13⟩)
    (c13 : PySem.W.codeIn K cd13 "_law_is_greatest" = true)
    (k13 : PySem.W.keepIn K (.ref f13) = true)
    (a14 : PySem.W.nsIn K mainGlobals "_law_door" = some (some (.ref f14)))
    (l14 : K.lookup f14 = some ⟨oc14, od14, .func (PySem.W.fnOf "_law_door" "_law_door" (defArgs sDoor) (defBody sDoor) (defScope sDoor) .none kV14 dc14 pm14 an14 cd14 ct14), sl14⟩)
    (c14 : PySem.W.codeIn K cd14 "_law_door" = true)
    (k14 : PySem.W.keepIn K (.ref f14) = true)
    (a15 : PySem.W.nsIn K mainGlobals "_law_stays" = some (some (.ref f15)))
    (l15 : K.lookup f15 = some ⟨oc15, od15, .func (PySem.W.fnOf "_law_stays" "_law_stays" (defArgs sStays) (defBody sStays) (defScope sStays) .none kV15 dc15 pm15 an15 cd15 ct15), sl15⟩)
    (c15 : PySem.W.codeIn K cd15 "_law_stays" = true)
    (k15 : PySem.W.keepIn K (.ref f15) = true)
    (a16 : PySem.W.nsIn K mainGlobals "augmenting" = some (some (.ref f16)))
    (l16 : K.lookup f16 = some ⟨oc16, od16, .func (PySem.W.fnOf "augmenting" "augmenting" (defArgs sAug) (defBody sAug) (defScope sAug) .none kV16 dc16 pm16 an16 cd16 ct16), sl16⟩)
    (c16 : PySem.W.codeIn K cd16 "augmenting" = true)
    (k16 : PySem.W.keepIn K (.ref f16) = true)
    (a17 : PySem.W.nsIn K mainGlobals "greatest" = some (some (.ref f17)))
    (l17 : K.lookup f17 = some ⟨oc17, od17, .func (PySem.W.fnOf "greatest" "greatest" (defArgs sGreat) (defBody sGreat) (defScope sGreat) .none kV17 dc17 pm17 an17 cd17 ct17), sl17⟩)
    (c17 : PySem.W.codeIn K cd17 "greatest" = true)
    (k17 : PySem.W.keepIn K (.ref f17) = true)
    (a18 : PySem.W.nsIn K mainGlobals "left_out" = some (some (.ref f18)))
    (l18 : K.lookup f18 = some ⟨oc18, od18, .func (PySem.W.fnOf "left_out" "left_out" (defArgs sLeft) (defBody sLeft) (defScope sLeft) .none kV18 dc18 pm18 an18 cd18 ct18), sl18⟩)
    (c18 : PySem.W.codeIn K cd18 "left_out" = true)
    (k18 : PySem.W.keepIn K (.ref f18) = true)
    (a19 : PySem.W.nsIn K mainGlobals "is_integer" = some (some (.ref f19)))
    (l19 : K.lookup f19 = some ⟨oc19, od19, .func (PySem.W.fnOf "is_integer" "is_integer" (defArgs sIsInteger) (defBody sIsInteger) (defScope sIsInteger) .none kV19 dc19 pm19 an19 cd19 ct19), sl19⟩)
    (c19 : PySem.W.codeIn K cd19 "is_integer" = true)
    (k19 : PySem.W.keepIn K (.ref f19) = true)
    (a20 : PySem.W.nsIn K mainGlobals "is_index" = some (some (.ref f20)))
    (l20 : K.lookup f20 = some ⟨oc20, od20, .func (PySem.W.fnOf "is_index" "is_index" (defArgs sIsIndex) (defBody sIsIndex) (defScope sIsIndex) .none kV20 dc20 pm20 an20 cd20 ct20), sl20⟩)
    (c20 : PySem.W.codeIn K cd20 "is_index" = true)
    (k20 : PySem.W.keepIn K (.ref f20) = true)
    (a21 : PySem.W.nsIn K mainGlobals "check_edges" = some (some (.ref f21)))
    (l21 : K.lookup f21 = some ⟨oc21, od21, .func (PySem.W.fnOf "check_edges" "check_edges" (defArgs sCheckEdges) (defBody sCheckEdges) (defScope sCheckEdges) .none kV21 dc21 pm21 an21 cd21 ct21), sl21⟩)
    (c21 : PySem.W.codeIn K cd21 "check_edges" = true)
    (k21 : PySem.W.keepIn K (.ref f21) = true)
    (a22 : PySem.W.nsIn K mainGlobals "check_node" = some (some (.ref f22)))
    (l22 : K.lookup f22 = some ⟨oc22, od22, .func (PySem.W.fnOf "check_node" "check_node" (defArgs sCheckNode) (defBody sCheckNode) (defScope sCheckNode) .none kV22 dc22 pm22 an22 cd22 ct22), sl22⟩)
    (c22 : PySem.W.codeIn K cd22 "check_node" = true)
    (k22 : PySem.W.keepIn K (.ref f22) = true)
    (a23 : PySem.W.nsIn K mainGlobals "make_graph" = some (some (.ref f23)))
    (l23 : K.lookup f23 = some ⟨oc23, od23, .func (PySem.W.fnOf "make_graph" "make_graph" (defArgs sMakeG) (defBody sMakeG) (defScope sMakeG) .none kV23 dc23 pm23 an23 cd23 ct23), sl23⟩)
    (c23 : PySem.W.codeIn K cd23 "make_graph" = true)
    (k23 : PySem.W.keepIn K (.ref f23) = true)
    (a24 : PySem.W.nsIn K mainGlobals "edges_of" = some (some (.ref f24)))
    (l24 : K.lookup f24 = some ⟨oc24, od24, .func (PySem.W.fnOf "edges_of" "edges_of" (defArgs sEdgesOf) (defBody sEdgesOf) (defScope sEdgesOf) .none kV24 dc24 pm24 an24 cd24 ct24), sl24⟩)
    (c24 : PySem.W.codeIn K cd24 "edges_of" = true)
    (k24 : PySem.W.keepIn K (.ref f24) = true)
    (a25 : PySem.W.nsIn K mainGlobals "parts" = some (some (.ref f25)))
    (l25 : K.lookup f25 = some ⟨oc25, od25, .func (PySem.W.fnOf "parts" "parts" (defArgs sParts) (defBody sParts) (defScope sParts) .none kV25 dc25 pm25 an25 cd25 ct25), sl25⟩)
    (c25 : PySem.W.codeIn K cd25 "parts" = true)
    (k25 : PySem.W.keepIn K (.ref f25) = true)
    (a26 : PySem.W.nsIn K mainGlobals "greatest_matching" = some (some (.ref f26)))
    (l26 : K.lookup f26 = some ⟨oc26, od26, .func (PySem.W.fnOf "greatest_matching" "greatest_matching" (defArgs sGM) (defBody sGM) (defScope sGM) .none kV26 dc26 pm26 an26 cd26 ct26), sl26⟩)
    (c26 : PySem.W.codeIn K cd26 "greatest_matching" = true)
    (k26 : PySem.W.keepIn K (.ref f26) = true)
    (a27 : PySem.W.findIn K (.ref C2) "__init__" = some (some (.ref f27)))
    (i27 : PySem.W.isFn K (.ref f27) = true)
    (l27 : K.lookup f27 = some ⟨oc27, od27, .func (PySem.W.fnOf "__init__" "Search.__init__" (defArgs sSInit) (defBody sSInit) (defScope sSInit) .none kV27 dc27 pm27 an27 cd27 ct27), sl27⟩)
    (c27 : PySem.W.codeIn K cd27 "Search.__init__" = true)
    (k27 : PySem.W.keepIn K (.ref f27) = true)
    (a28 : PySem.W.findIn K (.ref C2) "ancestors" = some (some (.ref f28)))
    (i28 : PySem.W.isFn K (.ref f28) = true)
    (l28 : K.lookup f28 = some ⟨oc28, od28, .func (PySem.W.fnOf "ancestors" "Search.ancestors" (defArgs sAnc) (defBody sAnc) (defScope sAnc) .none kV28 dc28 pm28 an28 cd28 ct28), sl28⟩)
    (c28 : PySem.W.codeIn K cd28 "Search.ancestors" = true)
    (k28 : PySem.W.keepIn K (.ref f28) = true)
    (a29 : PySem.W.findIn K (.ref C2) "meeting" = some (some (.ref f29)))
    (i29 : PySem.W.isFn K (.ref f29) = true)
    (l29 : K.lookup f29 = some ⟨oc29, od29, .func (PySem.W.fnOf "meeting" "Search.meeting" (defArgs sMeet) (defBody sMeet) (defScope sMeet) .none kV29 dc29 pm29 an29 cd29 ct29), sl29⟩)
    (c29 : PySem.W.codeIn K cd29 "Search.meeting" = true)
    (k29 : PySem.W.keepIn K (.ref f29) = true)
    (a30 : PySem.W.findIn K (.ref C2) "mark" = some (some (.ref f30)))
    (i30 : PySem.W.isFn K (.ref f30) = true)
    (l30 : K.lookup f30 = some ⟨oc30, od30, .func (PySem.W.fnOf "mark" "Search.mark" (defArgs sMark) (defBody sMark) (defScope sMark) .none kV30 dc30 pm30 an30 cd30 ct30), sl30⟩)
    (c30 : PySem.W.codeIn K cd30 "Search.mark" = true)
    (k30 : PySem.W.keepIn K (.ref f30) = true)
    (a31 : PySem.W.findIn K (.ref C2) "shrink" = some (some (.ref f31)))
    (i31 : PySem.W.isFn K (.ref f31) = true)
    (l31 : K.lookup f31 = some ⟨oc31, od31, .func (PySem.W.fnOf "shrink" "Search.shrink" (defArgs sShrink) (defBody sShrink) (defScope sShrink) .none kV31 dc31 pm31 an31 cd31 ct31), sl31⟩)
    (c31 : PySem.W.codeIn K cd31 "Search.shrink" = true)
    (k31 : PySem.W.keepIn K (.ref f31) = true)
    (a32 : PySem.W.findIn K (.ref C2) "reach" = some (some (.ref f32)))
    (i32 : PySem.W.isFn K (.ref f32) = true)
    (l32 : K.lookup f32 = some ⟨oc32, od32, .func (PySem.W.fnOf "reach" "Search.reach" (defArgs sReach) (defBody sReach) (defScope sReach) .none kV32 dc32 pm32 an32 cd32 ct32), sl32⟩)
    (c32 : PySem.W.codeIn K cd32 "Search.reach" = true)
    (k32 : PySem.W.keepIn K (.ref f32) = true)
    (a33 : PySem.W.findIn K (.ref C2) "run" = some (some (.ref f33)))
    (i33 : PySem.W.isFn K (.ref f33) = true)
    (l33 : K.lookup f33 = some ⟨oc33, od33, .func (PySem.W.fnOf "run" "Search.run" (defArgs sRun) (defBody sRun) (defScope sRun) .none kV33 dc33 pm33 an33 cd33 ct33), sl33⟩)
    (c33 : PySem.W.codeIn K cd33 "Search.run" = true)
    (k33 : PySem.W.keepIn K (.ref f33) = true)
    (a34 : PySem.W.findIn K (.ref C) "__init__" = some (some (.ref f34)))
    (i34 : PySem.W.isFn K (.ref f34) = true)
    (l34 : K.lookup f34 = some ⟨oc34, od34, .func (PySem.W.fnOf "__init__" "Graph.__init__" (defArgs sGInit) (defBody sGInit) (defScope sGInit) .none kV34 dc34 pm34 an34 cd34 ct34), sl34⟩)
    (c34 : PySem.W.codeIn K cd34 "Graph.__init__" = true)
    (k34 : PySem.W.keepIn K (.ref f34) = true)
    (a35 : PySem.W.findIn K (.ref C) "neighbours" = some (some (.ref f35)))
    (i35 : PySem.W.isFn K (.ref f35) = true)
    (l35 : K.lookup f35 = some ⟨oc35, od35, .func (PySem.W.fnOf "neighbours" "Graph.neighbours" (defArgs sNeigh) (defBody sNeigh) (defScope sNeigh) .none kV35 dc35 pm35 an35 cd35 ct35), sl35⟩)
    (c35 : PySem.W.codeIn K cd35 "Graph.neighbours" = true)
    (k35 : PySem.W.keepIn K (.ref f35) = true)
    (a36 : PySem.W.findIn K (.ref C) "complement" = some (some (.ref f36)))
    (i36 : PySem.W.isFn K (.ref f36) = true)
    (l36 : K.lookup f36 = some ⟨oc36, od36, .func (PySem.W.fnOf "complement" "Graph.complement" (defArgs sCompl) (defBody sCompl) (defScope sCompl) .none kV36 dc36 pm36 an36 cd36 ct36), sl36⟩)
    (c36 : PySem.W.codeIn K cd36 "Graph.complement" = true)
    (k36 : PySem.W.keepIn K (.ref f36) = true)
    (a37 : PySem.W.nsIn K mainGlobals "law" = some (some (.ref f37)))
    (l37 : K.lookup f37 = some ⟨oc37, od37, .func (PySem.W.fnOf "law" "law" (defArgs sLaw) (defBody sLaw) (defScope sLaw) .none kV37 dc37 pm37 an37 cd37 ct37), sl37⟩)
    (c37 : PySem.W.codeIn K cd37 "law" = true)
    (k37 : PySem.W.keepIn K (.ref f37) = true)
    (pgGraph : PySem.W.plainGet K C Str.empty = true)
    (hdGraph : PySem.W.hasDictIn K C = true)
    (poGraph : PySem.W.plainOver K C = true)
    (saGraph : PySem.W.findIn K (.ref C) "__setattr__" = some (some (.builtin "object.__setattr__")))
    (mkGraph : PySem.W.makesIn K C = true)
    (kcGraph : PySem.W.keepIn K (.ref C) = true)
    (pgSearch : PySem.W.plainGet K C2 Str.empty = true)
    (hdSearch : PySem.W.hasDictIn K C2 = true)
    (poSearch : PySem.W.plainOver K C2 = true)
    (saSearch : PySem.W.findIn K (.ref C2) "__setattr__" = some (some (.builtin "object.__setattr__")))
    (mkSearch : PySem.W.makesIn K C2 = true)
    (kcSearch : PySem.W.keepIn K (.ref C2) = true)
    (nGnodes : PySem.W.findIn K (.ref C) "nodes" = some none)
    (nGedges : PySem.W.findIn K (.ref C) "edges" = some none)
    (nGlinks : PySem.W.findIn K (.ref C) "links" = some none)
    (nSgraph : PySem.W.findIn K (.ref C2) "graph" = some none)
    (nSpartners : PySem.W.findIn K (.ref C2) "partners" = some none)
    (nSheads : PySem.W.findIn K (.ref C2) "heads" = some none)
    (nSbefore : PySem.W.findIn K (.ref C2) "before" = some none)
    (nSouter : PySem.W.findIn K (.ref C2) "outer" = some none)
    (zrange : PySem.W.nsIn K mainGlobals "range" = some none)
    (zlen : PySem.W.nsIn K mainGlobals "len" = some none)
    (zsorted : PySem.W.nsIn K mainGlobals "sorted" = some none)
    (zmin : PySem.W.nsIn K mainGlobals "min" = some none)
    (zmax : PySem.W.nsIn K mainGlobals "max" = some none)
    (zisinstance : PySem.W.nsIn K mainGlobals "isinstance" = some none)
    (zlist : PySem.W.nsIn K mainGlobals "list" = some none)
    (zint : PySem.W.nsIn K mainGlobals "int" = some none)
    (zbool : PySem.W.nsIn K mainGlobals "bool" = some none)
    (ztuple : PySem.W.nsIn K mainGlobals "tuple" = some none)
    (zstr : PySem.W.nsIn K mainGlobals "str" = some none)
    (zenumerate : PySem.W.nsIn K mainGlobals "enumerate" = some none)
    (aM : PySem.W.nsIn K mainGlobals "MOST" = some (some (.int 40 tM)))
    : ∃ fd : FuncData, (∀ (s : Shared) (v : Value), BindsTo s fd ⟨[v], []⟩ [("_law_script", v)]) ∧ ∀ base : Heap, K.In base → base.Ns mainGlobals mg → FnOk l.prog w K mg base CX0 11 fa fd ["_law_script"] (spLaw K) := by
  have e := hfa.symm.trans (PySem.W.mg_of X G a37)
  cases e
  have mC := PySem.W.mg_of X G aCGraph
  have mC2 := PySem.W.mg_of X G aCSearch
  have TG : GTx K C := ⟨⟨pgGraph, hdGraph, poGraph, saGraph⟩, nGnodes, nGedges, nGlinks⟩
  have T : STx K C2 := ⟨⟨pgSearch, hdSearch, poSearch, saSearch⟩, nSgraph, nSpartners, nSheads, nSbefore, nSouter⟩
  have m_range := PySem.W.mg_none_of X G zrange
  have m_len := PySem.W.mg_none_of X G zlen
  have m_sorted := PySem.W.mg_none_of X G zsorted
  have m_min := PySem.W.mg_none_of X G zmin
  have m_max := PySem.W.mg_none_of X G zmax
  have m_isinstance := PySem.W.mg_none_of X G zisinstance
  have m_list := PySem.W.mg_none_of X G zlist
  have m_int := PySem.W.mg_none_of X G zint
  have m_bool := PySem.W.mg_none_of X G zbool
  have m_tuple := PySem.W.mg_none_of X G ztuple
  have m_str := PySem.W.mg_none_of X G zstr
  have m_enumerate := PySem.W.mg_none_of X G zenumerate
  have mM : ∃ t, mg "MOST" = some (.int 40 t) := ⟨_, PySem.W.mg_of X G aM⟩
  have F1 := fun_mk (st := sMixed) l1 c1 k1
  have b1 := F1.binds (ps := ["_law_number", "_law_k"]) fun _ _ _ _ _ _ us hl => match us, hl with | [_, _], _ => rfl
  have D1 : Dfn K mg "_law_mixed" sMixed ["_law_number", "_law_k"] := ⟨_, _, F1, PySem.W.mg_of X G a1, k1, b1⟩
  have F2 := fun_mk (st := sNumbers) l2 c2 k2
  have b2 := F2.binds (ps := ["_law_script"]) fun _ _ _ _ _ _ us hl => match us, hl with | [_], _ => rfl
  have D2 : Dfn K mg "_law_numbers" sNumbers ["_law_script"] := ⟨_, _, F2, PySem.W.mg_of X G a2, k2, b2⟩
  have F3 := fun_mk (st := sDraw) l3 c3 k3
  have b3 := F3.binds (ps := ["_law_draws"]) fun _ _ _ _ _ _ us hl => match us, hl with | [_], _ => rfl
  have D3 : Dfn K mg "_law_draw" sDraw ["_law_draws"] := ⟨_, _, F3, PySem.W.mg_of X G a3, k3, b3⟩
  have F4 := fun_mk (st := sEq) l4 c4 k4
  have b4 := F4.binds (ps := ["_law_actual", "_law_due"]) fun _ _ _ _ _ _ us hl => match us, hl with | [_, _], _ => rfl
  have D4 : Dfn K mg "_law_equal" sEq ["_law_actual", "_law_due"] := ⟨_, _, F4, PySem.W.mg_of X G a4, k4, b4⟩
  have F5 := fun_mk (st := sAll) l5 c5 k5
  have b5 := F5.binds (ps := ["_law_actual", "_law_due"]) fun _ _ _ _ _ _ us hl => match us, hl with | [_, _], _ => rfl
  have D5 : Dfn K mg "_law_all_equal" sAll ["_law_actual", "_law_due"] := ⟨_, _, F5, PySem.W.mg_of X G a5, k5, b5⟩
  have F6 := fun_mk (st := sPairs) l6 c6 k6
  have b6 := F6.binds (ps := ["_law_draws", "_law_nodes"]) fun _ _ _ _ _ _ us hl => match us, hl with | [_, _], _ => rfl
  have D6 : Dfn K mg "_law_some_pairs" sPairs ["_law_draws", "_law_nodes"] := ⟨_, _, F6, PySem.W.mg_of X G a6, k6, b6⟩
  have F7 := fun_mk (st := sTurned) l7 c7 k7
  have b7 := F7.binds (ps := ["_law_draws", "_law_nodes", "_law_pairs"]) fun _ _ _ _ _ _ us hl => match us, hl with | [_, _, _], _ => rfl
  have D7 : Dfn K mg "_law_turned" sTurned ["_law_draws", "_law_nodes", "_law_pairs"] := ⟨_, _, F7, PySem.W.mg_of X G a7, k7, b7⟩
  have F8 := fun_mk (st := sEdges) l8 c8 k8
  have b8 := F8.binds (ps := ["_law_draws", "_law_nodes"]) fun _ _ _ _ _ _ us hl => match us, hl with | [_, _], _ => rfl
  have D8 : Dfn K mg "_law_edges" sEdges ["_law_draws", "_law_nodes"] := ⟨_, _, F8, PySem.W.mg_of X G a8, k8, b8⟩
  have F9 := fun_mk (st := sAround) l9 c9 k9
  have b9 := F9.binds (ps := ["_law_nodes", "_law_edges_here"]) fun _ _ _ _ _ _ us hl => match us, hl with | [_, _], _ => rfl
  have D9 : Dfn K mg "_law_around" sAround ["_law_nodes", "_law_edges_here"] := ⟨_, _, F9, PySem.W.mg_of X G a9, k9, b9⟩
  have F10 := fun_mk (st := sReach5) l10 c10 k10
  have b10 := F10.binds (ps := ["_law_around_here", "_law_start", "_law_gone"]) fun _ _ _ _ _ _ us hl => match us, hl with | [_, _, _], _ => rfl
  have D10 : Dfn K mg "_law_reach" sReach5 ["_law_around_here", "_law_start", "_law_gone"] := ⟨_, _, F10, PySem.W.mg_of X G a10, k10, b10⟩
  have F11 := fun_mk (st := sComps) l11 c11 k11
  have b11 := F11.binds (ps := ["_law_around_here", "_law_gone"]) fun _ _ _ _ _ _ us hl => match us, hl with | [_, _], _ => rfl
  have D11 : Dfn K mg "_law_components" sComps ["_law_around_here", "_law_gone"] := ⟨_, _, F11, PySem.W.mg_of X G a11, k11, b11⟩
  have F12 := fun_mk (st := sIsMat) l12 c12 k12
  have b12 := F12.binds (ps := ["_law_edges_here", "_law_row"]) fun _ _ _ _ _ _ us hl => match us, hl with | [_, _], _ => rfl
  have D12 : Dfn K mg "_law_is_matching" sIsMat ["_law_edges_here", "_law_row"] := ⟨_, _, F12, PySem.W.mg_of X G a12, k12, b12⟩
  have F13 := fun_mk (st := sIsGr) l13 c13 k13
  have b13 := F13.binds (ps := ["_law_nodes", "_law_edges_here", "_law_around_here", "_law_told"]) fun _ _ _ _ _ _ us hl => match us, hl with | [_, _, _, _], _ => rfl
  have D13 : Dfn K mg "_law_is_greatest" sIsGr ["_law_nodes", "_law_edges_here", "_law_around_here", "_law_told"] := ⟨_, _, F13, PySem.W.mg_of X G a13, k13, b13⟩
  have F14 := fun_mk (st := sDoor) l14 c14 k14
  have b14 := F14.binds (ps := ["_law_draws", "_law_nodes", "_law_edges_here"]) fun _ _ _ _ _ _ us hl => match us, hl with | [_, _, _], _ => rfl
  have D14 : Dfn K mg "_law_door" sDoor ["_law_draws", "_law_nodes", "_law_edges_here"] := ⟨_, _, F14, PySem.W.mg_of X G a14, k14, b14⟩
  have F15 := fun_mk (st := sStays) l15 c15 k15
  have b15 := F15.binds (ps := ["_law_graph", "_law_nodes", "_law_edges_here", "_law_around_here"]) fun _ _ _ _ _ _ us hl => match us, hl with | [_, _, _, _], _ => rfl
  have D15 : Dfn K mg "_law_stays" sStays ["_law_graph", "_law_nodes", "_law_edges_here", "_law_around_here"] := ⟨_, _, F15, PySem.W.mg_of X G a15, k15, b15⟩
  have F16 := fun_mk (st := sAug) l16 c16 k16
  have b16 := F16.binds (ps := ["graph", "partners", "start"]) fun _ _ _ _ _ _ us hl => match us, hl with | [_, _, _], _ => rfl
  have D16 : Dfn K mg "augmenting" sAug ["graph", "partners", "start"] := ⟨_, _, F16, PySem.W.mg_of X G a16, k16, b16⟩
  have F17 := fun_mk (st := sGreat) l17 c17 k17
  have b17 := F17.binds (ps := ["graph"]) fun _ _ _ _ _ _ us hl => match us, hl with | [_], _ => rfl
  have D17 : Dfn K mg "greatest" sGreat ["graph"] := ⟨_, _, F17, PySem.W.mg_of X G a17, k17, b17⟩
  have F18 := fun_mk (st := sLeft) l18 c18 k18
  have b18 := F18.binds (ps := ["graph", "partners"]) fun _ _ _ _ _ _ us hl => match us, hl with | [_, _], _ => rfl
  have D18 : Dfn K mg "left_out" sLeft ["graph", "partners"] := ⟨_, _, F18, PySem.W.mg_of X G a18, k18, b18⟩
  have F19 := fun_mk (st := sIsInteger) l19 c19 k19
  have b19 := F19.binds (ps := ["value"]) fun _ _ _ _ _ _ us hl => match us, hl with | [_], _ => rfl
  have D19 : Dfn K mg "is_integer" sIsInteger ["value"] := ⟨_, _, F19, PySem.W.mg_of X G a19, k19, b19⟩
  have F20 := fun_mk (st := sIsIndex) l20 c20 k20
  have b20 := F20.binds (ps := ["value", "bound"]) fun _ _ _ _ _ _ us hl => match us, hl with | [_, _], _ => rfl
  have D20 : Dfn K mg "is_index" sIsIndex ["value", "bound"] := ⟨_, _, F20, PySem.W.mg_of X G a20, k20, b20⟩
  have F21 := fun_mk (st := sCheckEdges) l21 c21 k21
  have b21 := F21.binds (ps := ["nodes", "edges"]) fun _ _ _ _ _ _ us hl => match us, hl with | [_, _], _ => rfl
  have D21 : Dfn K mg "check_edges" sCheckEdges ["nodes", "edges"] := ⟨_, _, F21, PySem.W.mg_of X G a21, k21, b21⟩
  have F22 := fun_mk (st := sCheckNode) l22 c22 k22
  have b22 := F22.binds (ps := ["graph", "v"]) fun _ _ _ _ _ _ us hl => match us, hl with | [_, _], _ => rfl
  have D22 : Dfn K mg "check_node" sCheckNode ["graph", "v"] := ⟨_, _, F22, PySem.W.mg_of X G a22, k22, b22⟩
  have F23 := fun_mk (st := sMakeG) l23 c23 k23
  have b23 := F23.binds (ps := ["nodes", "pairs"]) fun _ _ _ _ _ _ us hl => match us, hl with | [_, _], _ => rfl
  have D23 : Dfn K mg "make_graph" sMakeG ["nodes", "pairs"] := ⟨_, _, F23, PySem.W.mg_of X G a23, k23, b23⟩
  have F24 := fun_mk (st := sEdgesOf) l24 c24 k24
  have b24 := F24.binds (ps := ["partners"]) fun _ _ _ _ _ _ us hl => match us, hl with | [_], _ => rfl
  have D24 : Dfn K mg "edges_of" sEdgesOf ["partners"] := ⟨_, _, F24, PySem.W.mg_of X G a24, k24, b24⟩
  have F25 := fun_mk (st := sParts) l25 c25 k25
  have b25 := F25.binds (ps := ["graph"]) fun _ _ _ _ _ _ us hl => match us, hl with | [_], _ => rfl
  have D25 : Dfn K mg "parts" sParts ["graph"] := ⟨_, _, F25, PySem.W.mg_of X G a25, k25, b25⟩
  have F26 := fun_mk (st := sGM) l26 c26 k26
  have b26 := F26.binds (ps := ["graph"]) fun _ _ _ _ _ _ us hl => match us, hl with | [_], _ => rfl
  have D26 : Dfn K mg "greatest_matching" sGM ["graph"] := ⟨_, _, F26, PySem.W.mg_of X G a26, k26, b26⟩
  have F27 := fun_mk (st := sSInit) l27 c27 k27
  have b27 := F27.binds (ps := ["self", "graph", "partners", "start"]) fun _ _ _ _ _ _ us hl => match us, hl with | [_, _, _, _], _ => rfl
  have D27 : Kdf K mg "Search" "Search.__init__" C2 sSInit ["self", "graph", "partners", "start"] := ⟨_, _, ⟨mkSearch, a27, i27, kcSearch⟩, F27, mC2, b27⟩
  have F28 := fun_mk (st := sAnc) l28 c28 k28
  have b28 := F28.binds (ps := ["self", "node"]) fun _ _ _ _ _ _ us hl => match us, hl with | [_, _], _ => rfl
  have D28 : Mdf K C2 "ancestors" "Search.ancestors" sAnc ["self", "node"] := ⟨_, _, T.cl, ⟨a28, i28, k28⟩, F28, b28⟩
  have F29 := fun_mk (st := sMeet) l29 c29 k29
  have b29 := F29.binds (ps := ["self", "first", "second"]) fun _ _ _ _ _ _ us hl => match us, hl with | [_, _, _], _ => rfl
  have D29 : Mdf K C2 "meeting" "Search.meeting" sMeet ["self", "first", "second"] := ⟨_, _, T.cl, ⟨a29, i29, k29⟩, F29, b29⟩
  have F30 := fun_mk (st := sMark) l30 c30 k30
  have b30 := F30.binds (ps := ["self", "node", "head", "child", "inside"]) fun _ _ _ _ _ _ us hl => match us, hl with | [_, _, _, _, _], _ => rfl
  have D30 : Mdf K C2 "mark" "Search.mark" sMark ["self", "node", "head", "child", "inside"] := ⟨_, _, T.cl, ⟨a30, i30, k30⟩, F30, b30⟩
  have F31 := fun_mk (st := sShrink) l31 c31 k31
  have b31 := F31.binds (ps := ["self", "first", "second"]) fun _ _ _ _ _ _ us hl => match us, hl with | [_, _, _], _ => rfl
  have D31 : Mdf K C2 "shrink" "Search.shrink" sShrink ["self", "first", "second"] := ⟨_, _, T.cl, ⟨a31, i31, k31⟩, F31, b31⟩
  have F32 := fun_mk (st := sReach) l32 c32 k32
  have b32 := F32.binds (ps := ["self", "node", "other"]) fun _ _ _ _ _ _ us hl => match us, hl with | [_, _, _], _ => rfl
  have D32 : Mdf K C2 "reach" "Search.reach" sReach ["self", "node", "other"] := ⟨_, _, T.cl, ⟨a32, i32, k32⟩, F32, b32⟩
  have F33 := fun_mk (st := sRun) l33 c33 k33
  have b33 := F33.binds (ps := ["self"]) fun _ _ _ _ _ _ us hl => match us, hl with | [_], _ => rfl
  have D33 : Mdf K C2 "run" "Search.run" sRun ["self"] := ⟨_, _, T.cl, ⟨a33, i33, k33⟩, F33, b33⟩
  have F34 := fun_mk (st := sGInit) l34 c34 k34
  have b34 := F34.binds (ps := ["self", "nodes", "edges"]) fun _ _ _ _ _ _ us hl => match us, hl with | [_, _, _], _ => rfl
  have D34 : Kdf K mg "Graph" "Graph.__init__" C sGInit ["self", "nodes", "edges"] := ⟨_, _, ⟨mkGraph, a34, i34, kcGraph⟩, F34, mC, b34⟩
  have F35 := fun_mk (st := sNeigh) l35 c35 k35
  have b35 := F35.binds (ps := ["self", "v"]) fun _ _ _ _ _ _ us hl => match us, hl with | [_, _], _ => rfl
  have D35 : Mdf K C "neighbours" "Graph.neighbours" sNeigh ["self", "v"] := ⟨_, _, TG.cl, ⟨a35, i35, k35⟩, F35, b35⟩
  have F36 := fun_mk (st := sCompl) l36 c36 k36
  have b36 := F36.binds (ps := ["self"]) fun _ _ _ _ _ _ us hl => match us, hl with | [_], _ => rfl
  have D36 : Mdf K C "complement" "Graph.complement" sCompl ["self"] := ⟨_, _, TG.cl, ⟨a36, i36, k36⟩, F36, b36⟩
  have F37 := fun_mk (st := sLaw) l37 c37 k37
  exact ⟨_, fun s v => .of_eq rfl, fun base _ _ => by
    have c__law_mixed := ok_mixed (P := l.prog) (w := w) (mg := mg) (base := base) D1
    have c__law_draw := ok_draw (P := l.prog) (w := w) (mg := mg) (base := base) D3 m_len c__law_mixed
    have c__law_numbers := ok_numbers (P := l.prog) (w := w) (mg := mg) (base := base) D2 m_range c__law_mixed
    have c__law_some_pairs := ok_pairs (P := l.prog) (w := w) (mg := mg) (base := base) D6 m_range m_min m_max c__law_draw
    have c__law_turned := ok_turned (P := l.prog) (w := w) (mg := mg) (base := base) D7 m_range m_min m_max m_len m_sorted c__law_draw
    have c__law_edges := ok_edges (P := l.prog) (w := w) (mg := mg) (base := base) D8 c__law_turned c__law_some_pairs
    have c__law_around := ok_around (P := l.prog) (w := w) (mg := mg) (base := base) D9 m_range m_sorted
    have c_is_integer := ok_is_integer (P := l.prog) (w := w) (mg := mg) (base := base) D19 m_isinstance m_int m_bool
    have c_is_index := ok_is_index (P := l.prog) (w := w) (mg := mg) (base := base) D20 c_is_integer
    have c_check_edges := ok_check_edges (P := l.prog) (w := w) (mg := mg) (base := base) D21 mM m_isinstance m_list m_tuple m_len c_is_integer c_is_index
    have c_check_node := ok_check_node (P := l.prog) (w := w) (mg := mg) (base := base) (C := C) D22 TG c_is_index
    have c_neighbours := ok_neigh (P := l.prog) (w := w) (mg := mg) (base := base) (C := C) D35 TG m_list c_check_node
    have c_Graph := ok_ginit (P := l.prog) (w := w) (mg := mg) (base := base) (C := C) D34 TG m_list m_range m_sorted c_check_edges
    have c_complement := ok_compl (P := l.prog) (w := w) (mg := mg) (base := base) (C := C) D36 TG m_range c_Graph
    have c_make_graph := ok_makeg (P := l.prog) (w := w) (mg := mg) (base := base) (C := C) D23 m_isinstance m_list m_tuple m_len m_min m_max m_sorted c_is_index c_check_edges c_Graph
    have c__law_door := ok_door (P := l.prog) (w := w) (mg := mg) (base := base) (C := C) D14 m_list c__law_draw c_Graph c_make_graph c_complement
    have c_ancestors := ok_anc (P := l.prog) (w := w) (mg := mg) (base := base) (C := C) D28 T
    have c_meeting := ok_meet (P := l.prog) (w := w) (mg := mg) (base := base) (C := C) D29 c_ancestors
    have c_mark := ok_mark (P := l.prog) (w := w) (mg := mg) (base := base) (C := C) D30 T
    have c_shrink := ok_shrink (P := l.prog) (w := w) (mg := mg) (base := base) (C := C) D31 T TG m_range c_meeting c_mark
    have c_reach := ok_reach (P := l.prog) (w := w) (mg := mg) (base := base) (C := C) D32 T c_shrink
    have c_run := ok_run (P := l.prog) (w := w) (mg := mg) (base := base) (C := C) D33 T TG m_len c_reach
    have c_Search := ok_sinit (P := l.prog) (w := w) (mg := mg) (base := base) (C := C) D27 T TG m_list m_range
    have c_augmenting := ok_aug (P := l.prog) (w := w) (mg := mg) (base := base) (C := C) D16 T c_Search c_run
    have c_greatest := ok_great (P := l.prog) (w := w) (mg := mg) (base := base) (C := C) D17 TG m_range m_len c_augmenting
    have c_edges_of := ok_edgesof (P := l.prog) (w := w) (mg := mg) (base := base) D24 m_enumerate
    have c_left_out := ok_left (P := l.prog) (w := w) (mg := mg) (base := base) (C := C) D18 T TG m_range m_sorted c_Search c_run
    have c_parts := ok_parts (P := l.prog) (w := w) (mg := mg) (base := base) (C := C) D25 TG m_range c_left_out c_greatest
    have c_greatest_matching := ok_gm (P := l.prog) (w := w) (mg := mg) (base := base) (C := C) D26 c_edges_of c_greatest c_parts
    have al0 := ok_all0 (P := l.prog) (w := w) (mg := mg) (base := base) D5
    have eq0 := ok_equal (P := l.prog) (w := w) (mg := mg) (base := base) D4 m_isinstance m_len m_list m_tuple m_bool m_int m_str al0
    have al1 := ok_all (P := l.prog) (w := w) (mg := mg) (base := base) D5 m_range m_len eq0
    have eq1 := ok_equal (P := l.prog) (w := w) (mg := mg) (base := base) D4 m_isinstance m_len m_list m_tuple m_bool m_int m_str al1
    have al2 := ok_all (P := l.prog) (w := w) (mg := mg) (base := base) D5 m_range m_len eq1
    have eq2 := ok_equal (P := l.prog) (w := w) (mg := mg) (base := base) D4 m_isinstance m_len m_list m_tuple m_bool m_int m_str al2
    have al3 := ok_all (P := l.prog) (w := w) (mg := mg) (base := base) D5 m_range m_len eq2
    have eq3 := ok_equal (P := l.prog) (w := w) (mg := mg) (base := base) D4 m_isinstance m_len m_list m_tuple m_bool m_int m_str al3
    have c__law_equal := eq3
    have c__law_reach := ok_lreach (P := l.prog) (w := w) (mg := mg) (base := base) D10 m_range m_len m_sorted
    have c__law_components := ok_comps (P := l.prog) (w := w) (mg := mg) (base := base) D11 m_range m_len c__law_reach
    have c__law_is_matching := ok_ismat (P := l.prog) (w := w) (mg := mg) (base := base) D12 m_isinstance m_range m_len m_list m_tuple m_bool
    have c__law_is_greatest := ok_isgr (P := l.prog) (w := w) (mg := mg) (base := base) D13 m_isinstance m_range m_len m_list m_tuple m_bool m_int c__law_is_matching c__law_components
    have c__law_stays := ok_stays (P := l.prog) (w := w) (mg := mg) (base := base) (C := C) D15 TG m_range c__law_equal c_neighbours
    exact ok_law F37 m_range m_int c__law_numbers c__law_draw c__law_edges c__law_around c__law_door c_greatest_matching c__law_is_greatest c__law_stays⟩
theorem walk {l : PySem.W.OpenLaw} {q : Program} {loose : List Str} {XP : (Str → Option Value) → Heap → Prop} {YP : World → Heap → Prop} {d : DefRec} {K : Params → PySem.W.Frag} (hn : l.most = some 63) (hdf : d.params.defaults = [])
    (hY : ∀ (w : World) (h : Heap), YP w h → (K w.params).In h)
    (F : ∀ (w : World) (mg : Str → Option Value) (fa : Addr) (h : Heap), (K w.params).In h → h.Ns mainGlobals mg → mg d.name = some (.ref fa) →
      ∃ fd : FuncData, (∀ (s : Shared) (u : Value), BindsTo s fd ⟨[u], []⟩ [("_law_script", u)]) ∧ ∀ base : Heap, (K w.params).In base → base.Ns mainGlobals mg → FnOk l.prog w (K w.params) mg base CX0 11 fa fd ["_law_script"] (spLaw (K w.params))) :
    PySem.W.WalkO q loose XP YP l.row.toRowW d [] (fun f vs => PySem.call f vs) :=
  L2.walk_of (n := 63) (k := 11) (x := "_law_script") (CX := fun _ => CX0) (sp := fun w => spLaw (K w.params)) hn (by decide) hdf ⟨rfl, by decide, by decide⟩ hY F (fun _ _ a ns hl _ hS => ⟨a, ns, rfl, hS, hl, fun _ => rfl⟩) fun _ _ _ _ _ z => z
end Cherry
open PySem PySem.W PyProof.Rows in
set_option maxRecDepth 100000 in
set_option maxHeartbeats 0 in
theorem PySem.Challenge.cw_cherrystone_k17_whole_greatest_matchings_holds : PySem.Challenge.rw_cherrystone_k17_whole_greatest_matchings.Holds := by
  w_on; o_law; k_head; (case hw => w_witness2)
  k_fill
  refine Cherry.walk (l := PySem.Challenge.rw_cherrystone_k17_whole_greatest_matchings) rfl rfl (fun w h Y => PySem.W.kIn_of Y) ?F
  case F =>
    intro w mg fa h KX G hmg
    refine' Cherry.all_mk KX G hmg ?aCGraph ?aCSearch ?a1 ?l1 ?c1 ?k1 ?a2 ?l2 ?c2 ?k2 ?a3 ?l3 ?c3 ?k3 ?a4 ?l4 ?c4 ?k4 ?a5 ?l5 ?c5 ?k5 ?a6 ?l6 ?c6 ?k6 ?a7 ?l7 ?c7 ?k7 ?a8 ?l8 ?c8 ?k8 ?a9 ?l9 ?c9 ?k9 ?a10 ?l10 ?c10 ?k10 ?a11 ?l11 ?c11 ?k11 ?a12 ?l12 ?c12 ?k12 ?a13 ?l13 ?c13 ?k13 ?a14 ?l14 ?c14 ?k14 ?a15 ?l15 ?c15 ?k15 ?a16 ?l16 ?c16 ?k16 ?a17 ?l17 ?c17 ?k17 ?a18 ?l18 ?c18 ?k18 ?a19 ?l19 ?c19 ?k19 ?a20 ?l20 ?c20 ?k20 ?a21 ?l21 ?c21 ?k21 ?a22 ?l22 ?c22 ?k22 ?a23 ?l23 ?c23 ?k23 ?a24 ?l24 ?c24 ?k24 ?a25 ?l25 ?c25 ?k25 ?a26 ?l26 ?c26 ?k26 ?a27 ?i27 ?l27 ?c27 ?k27 ?a28 ?i28 ?l28 ?c28 ?k28 ?a29 ?i29 ?l29 ?c29 ?k29 ?a30 ?i30 ?l30 ?c30 ?k30 ?a31 ?i31 ?l31 ?c31 ?k31 ?a32 ?i32 ?l32 ?c32 ?k32 ?a33 ?i33 ?l33 ?c33 ?k33 ?a34 ?i34 ?l34 ?c34 ?k34 ?a35 ?i35 ?l35 ?c35 ?k35 ?a36 ?i36 ?l36 ?c36 ?k36 ?a37 ?l37 ?c37 ?k37 ?pgGraph ?hdGraph ?poGraph ?saGraph ?mkGraph ?kcGraph ?pgSearch ?hdSearch ?poSearch ?saSearch ?mkSearch ?kcSearch ?nGnodes ?nGedges ?nGlinks ?nSgraph ?nSpartners ?nSheads ?nSbefore ?nSouter ?zrange ?zlen ?zsorted ?zmin ?zmax ?zisinstance ?zlist ?zint ?zbool ?ztuple ?zstr ?zenumerate ?aM
    (case aCGraph => k_is)
    (case aCSearch => k_is)
    (case a1 => k_is)
    (case l1 => k_is)
    (case c1 => k_is)
    (case k1 => k_is)
    (case a2 => k_is)
    (case l2 => k_is)
    (case c2 => k_is)
    (case k2 => k_is)
    (case a3 => k_is)
    (case l3 => k_is)
    (case c3 => k_is)
    (case k3 => k_is)
    (case a4 => k_is)
    (case l4 => k_is)
    (case c4 => k_is)
    (case k4 => k_is)
    (case a5 => k_is)
    (case l5 => k_is)
    (case c5 => k_is)
    (case k5 => k_is)
    (case a6 => k_is)
    (case l6 => k_is)
    (case c6 => k_is)
    (case k6 => k_is)
    (case a7 => k_is)
    (case l7 => k_is)
    (case c7 => k_is)
    (case k7 => k_is)
    (case a8 => k_is)
    (case l8 => k_is)
    (case c8 => k_is)
    (case k8 => k_is)
    (case a9 => k_is)
    (case l9 => k_is)
    (case c9 => k_is)
    (case k9 => k_is)
    (case a10 => k_is)
    (case l10 => k_is)
    (case c10 => k_is)
    (case k10 => k_is)
    (case a11 => k_is)
    (case l11 => k_is)
    (case c11 => k_is)
    (case k11 => k_is)
    (case a12 => k_is)
    (case l12 => k_is)
    (case c12 => k_is)
    (case k12 => k_is)
    (case a13 => k_is)
    (case l13 => k_is)
    (case c13 => k_is)
    (case k13 => k_is)
    (case a14 => k_is)
    (case l14 => k_is)
    (case c14 => k_is)
    (case k14 => k_is)
    (case a15 => k_is)
    (case l15 => k_is)
    (case c15 => k_is)
    (case k15 => k_is)
    (case a16 => k_is)
    (case l16 => k_is)
    (case c16 => k_is)
    (case k16 => k_is)
    (case a17 => k_is)
    (case l17 => k_is)
    (case c17 => k_is)
    (case k17 => k_is)
    (case a18 => k_is)
    (case l18 => k_is)
    (case c18 => k_is)
    (case k18 => k_is)
    (case a19 => k_is)
    (case l19 => k_is)
    (case c19 => k_is)
    (case k19 => k_is)
    (case a20 => k_is)
    (case l20 => k_is)
    (case c20 => k_is)
    (case k20 => k_is)
    (case a21 => k_is)
    (case l21 => k_is)
    (case c21 => k_is)
    (case k21 => k_is)
    (case a22 => k_is)
    (case l22 => k_is)
    (case c22 => k_is)
    (case k22 => k_is)
    (case a23 => k_is)
    (case l23 => k_is)
    (case c23 => k_is)
    (case k23 => k_is)
    (case a24 => k_is)
    (case l24 => k_is)
    (case c24 => k_is)
    (case k24 => k_is)
    (case a25 => k_is)
    (case l25 => k_is)
    (case c25 => k_is)
    (case k25 => k_is)
    (case a26 => k_is)
    (case l26 => k_is)
    (case c26 => k_is)
    (case k26 => k_is)
    (case a27 => k_is)
    (case i27 => k_is)
    (case l27 => k_is)
    (case c27 => k_is)
    (case k27 => k_is)
    (case a28 => k_is)
    (case i28 => k_is)
    (case l28 => k_is)
    (case c28 => k_is)
    (case k28 => k_is)
    (case a29 => k_is)
    (case i29 => k_is)
    (case l29 => k_is)
    (case c29 => k_is)
    (case k29 => k_is)
    (case a30 => k_is)
    (case i30 => k_is)
    (case l30 => k_is)
    (case c30 => k_is)
    (case k30 => k_is)
    (case a31 => k_is)
    (case i31 => k_is)
    (case l31 => k_is)
    (case c31 => k_is)
    (case k31 => k_is)
    (case a32 => k_is)
    (case i32 => k_is)
    (case l32 => k_is)
    (case c32 => k_is)
    (case k32 => k_is)
    (case a33 => k_is)
    (case i33 => k_is)
    (case l33 => k_is)
    (case c33 => k_is)
    (case k33 => k_is)
    (case a34 => k_is)
    (case i34 => k_is)
    (case l34 => k_is)
    (case c34 => k_is)
    (case k34 => k_is)
    (case a35 => k_is)
    (case i35 => k_is)
    (case l35 => k_is)
    (case c35 => k_is)
    (case k35 => k_is)
    (case a36 => k_is)
    (case i36 => k_is)
    (case l36 => k_is)
    (case c36 => k_is)
    (case k36 => k_is)
    (case a37 => k_is)
    (case l37 => k_is)
    (case c37 => k_is)
    (case k37 => k_is)
    (case pgGraph => k_is)
    (case hdGraph => k_is)
    (case poGraph => k_is)
    (case saGraph => k_is)
    (case mkGraph => k_is)
    (case kcGraph => k_is)
    (case pgSearch => k_is)
    (case hdSearch => k_is)
    (case poSearch => k_is)
    (case saSearch => k_is)
    (case mkSearch => k_is)
    (case kcSearch => k_is)
    (case nGnodes => k_is)
    (case nGedges => k_is)
    (case nGlinks => k_is)
    (case nSgraph => k_is)
    (case nSpartners => k_is)
    (case nSheads => k_is)
    (case nSbefore => k_is)
    (case nSouter => k_is)
    (case zrange => k_is)
    (case zlen => k_is)
    (case zsorted => k_is)
    (case zmin => k_is)
    (case zmax => k_is)
    (case zisinstance => k_is)
    (case zlist => k_is)
    (case zint => k_is)
    (case zbool => k_is)
    (case ztuple => k_is)
    (case zstr => k_is)
    (case zenumerate => k_is)
    (case aM => k_is)
