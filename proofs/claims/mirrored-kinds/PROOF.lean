import PyProof.Rows.All
import Wide.All
import OpenK.AllK
import Wide.FinOn
import HandS.ForMost
import HandS.Walk
import HandS.IsInst
import HandS.IterVal
import HandS.DictComp
import HandS.Strs
import HandS.TupAny
import HandS.Style
import HandS.WideBits
import HandS.FStrTup
import HandS.Conv
import KE.GoesEnum
import KE.GoesMore
import KE.KUnpackStar
import KE.KSortTupG
import HandS.StrMore
import PySem.Challenge.RW_lastpasses_k64_whole_mirrored_kinds
set_option linter.all false
/-! The mathematics of passes by lists: no program in sight. -/
namespace LP
section
variable {A : Type} [DecidableEq A]

/-- who is compared, as (shorter, taller); k: the tallest stays -/
def cmpF (k : Bool) : A → List A → List A → Option (List (A × A))
  | s, p :: ps, l :: ls =>
    if l ≠ p ∧ l ≠ s then none
    else match cmpF k (if l = p then s else p) ps ls with
      | none => none
      | some r => some ((if k = true then (l, if l = p then s else p) else (if l = p then s else p, l)) :: r)
  | _, [], _ => some []
  | _, _ :: _, [] => some []
def cmpRow (k : Bool) : List A → List A → Option (List (A × A))
  | [], _ => none
  | s :: ps, l => cmpF k s ps l
def Sat (f : A → Int) (r : List (A × A)) : Prop := ∀ p ∈ r, f p.1 < f p.2

theorem cmpF_cons (k : Bool) (s p : A) (ps : List A) (l : A) (ls : List A) : cmpF k s (p :: ps) (l :: ls) =
    if l ≠ p ∧ l ≠ s then none
    else match cmpF k (if l = p then s else p) ps ls with
      | none => none
      | some r => some ((if k = true then (l, if l = p then s else p) else (if l = p then s else p, l)) :: r) := by
  rw [cmpF]
theorem cmpF_nil (k : Bool) (s : A) (ls : List A) : cmpF k s [] ls = some [] := by
  cases ls <;> rw [cmpF]

theorem cmpF_not (k : Bool) : ∀ (ps : List A) (s : A) (ls : List A), cmpF (!k) s ps ls = (cmpF k s ps ls).map (fun r => r.map Prod.swap)
  | [], s, ls => by rw [cmpF_nil, cmpF_nil]; rfl
  | p :: ps, s, [] => by rw [cmpF, cmpF]; rfl
  | p :: ps, s, l :: ls => by
    rw [cmpF_cons, cmpF_cons]
    by_cases h : l ≠ p ∧ l ≠ s
    · rw [if_pos h, if_pos h]; rfl
    · rw [if_neg h, if_neg h, cmpF_not k ps _ ls]
      cases cmpF k (if l = p then s else p) ps ls with
      | none => rfl
      | some r => cases k <;> rfl

/-- one turn: who leaves, who stays, what remains -/
theorem turn {s p l : A} {ps ls : List A} (hp : (s :: p :: ps).Perm (l :: ls)) (h : ¬ (l ≠ p ∧ l ≠ s)) :
    ((if l = p then s else p) :: ps).Perm ls ∧ (∀ x, x ∈ s :: p :: ps ↔ x = l ∨ x ∈ (if l = p then s else p) :: ps) := by
  by_cases e : l = p
  · subst e
    rw [if_pos rfl]
    refine ⟨?_, fun x => ?_⟩
    · exact ((List.Perm.swap s l ps).trans hp).cons_inv
    · simp only [List.mem_cons]
      constructor
      · rintro (h | h | h)
        · exact .inr (.inl h)
        · exact .inl h
        · exact .inr (.inr h)
      · rintro (h | h | h)
        · exact .inr (.inl h)
        · exact .inl h
        · exact .inr (.inr h)
  · have e2 : l = s := by
      by_cases q : l = s
      · exact q
      · exact absurd ⟨e, q⟩ h
    subst e2
    rw [if_neg e]
    exact ⟨hp.cons_inv, fun x => by simp only [List.mem_cons]⟩

theorem getLast?_tail {l : A} : ∀ {ls : List A}, ls ≠ [] → (l :: ls).getLast? = ls.getLast?
  | [], h => absurd rfl h
  | _ :: _, _ => List.getLast?_cons_cons

/-- in a pass that keeps the tallest, the last one is above all -/
theorem cmp_last : ∀ (ps : List A) (s : A) (ls : List A) (r : List (A × A)) (f : A → Int) (z : A), (s :: ps).Perm ls → cmpF true s ps ls = some r → Sat f r → ls.getLast? = some z →
    ∀ x ∈ s :: ps, x = z ∨ f x < f z
  | [], s, ls, r, f, z, hp, _, _, hz => by
    intro x hx
    have e : ls = [s] := List.perm_singleton.mp hp.symm
    subst e
    have e2 : x = s := by simpa using hx
    have e3 : s = z := by simpa using hz
    exact .inl (e2.trans e3)
  | p :: ps, s, [], r, f, z, hp, _, _, _ => by simpa using hp.length_eq
  | p :: ps, s, l :: ls, r, f, z, hp, hc, hs, hz => by
    rw [cmpF_cons] at hc
    by_cases h : l ≠ p ∧ l ≠ s
    · rw [if_pos h] at hc; cases hc
    · rw [if_neg h] at hc
      obtain ⟨h1, h2⟩ := turn hp h
      cases e : cmpF true (if l = p then s else p) ps ls with
      | none => rw [e] at hc; cases hc
      | some r' =>
        rw [e] at hc
        have hr := Option.some.inj hc
        subst hr
        have ne : ls ≠ [] := by
          rintro rfl
          simpa using h1.length_eq
        rw [getLast?_tail ne] at hz
        have ih := cmp_last ps _ ls r' f z h1 e (fun q hq => hs q (List.mem_cons_of_mem _ hq)) hz
        have h0 := hs _ List.mem_cons_self
        simp only [if_true] at h0
        intro x hx
        rcases (h2 x).mp hx with rfl | hx
        · rcases ih _ List.mem_cons_self with q | q
          · rw [q] at h0; exact .inr h0
          · exact .inr (Int.lt_trans h0 q)
        · exact ih x hx

/-- the row after the pass is itself an order -/
theorem cmp_self : ∀ (ps : List A) (s : A) (ls : List A) (r : List (A × A)), (s :: ps).Perm ls → ls.Nodup → cmpF true s ps ls = some r →
    ∀ p ∈ r, p.1 ∈ ls ∧ p.2 ∈ ls ∧ ls.idxOf p.1 < ls.idxOf p.2
  | [], s, ls, r, _, _, hc => by
    rw [cmpF_nil] at hc
    cases hc
    intro p hp
    cases hp
  | p :: ps, s, [], r, hp, _, _ => by simpa using hp.length_eq
  | p :: ps, s, l :: ls, r, hp, hn, hc => by
    rw [cmpF_cons] at hc
    by_cases h : l ≠ p ∧ l ≠ s
    · rw [if_pos h] at hc; cases hc
    · rw [if_neg h] at hc
      obtain ⟨h1, h2⟩ := turn hp h
      obtain ⟨hl, hn'⟩ := List.nodup_cons.mp hn
      cases e : cmpF true (if l = p then s else p) ps ls with
      | none => rw [e] at hc; cases hc
      | some r' =>
        rw [e] at hc
        have hr := Option.some.inj hc
        subst hr
        have ih := cmp_self ps _ ls r' h1 hn' e
        have up : ∀ x ∈ ls, (l :: ls).idxOf x = ls.idxOf x + 1 := fun x hx => by
          rw [List.idxOf_cons]
          have : (l == x) = false := by
            rw [beq_eq_false_iff_ne]
            rintro rfl
            exact hl hx
          rw [this]
          rfl
        intro q hq
        rcases List.mem_cons.mp hq with rfl | hq
        · have hst : (if l = p then s else p) ∈ ls := h1.subset List.mem_cons_self
          refine ⟨List.mem_cons_self, List.mem_cons_of_mem _ hst, ?_⟩
          show (l :: ls).idxOf l < (l :: ls).idxOf (if l = p then s else p)
          rw [up _ hst, List.idxOf_cons_self]
          exact Nat.succ_pos _
        · obtain ⟨a, b, c⟩ := ih q hq
          refine ⟨List.mem_cons_of_mem _ a, List.mem_cons_of_mem _ b, ?_⟩
          rw [up _ a, up _ b]
          exact Nat.succ_lt_succ c

/-- the row after a pass, by ranks -/
def lateF (k : Bool) (f : A → Int) : A → List A → List A
  | s, [] => [s]
  | s, p :: ps => if f s < f p then (if k = true then s else p) :: lateF k f (if k = true then p else s) ps
      else (if k = true then p else s) :: lateF k f (if k = true then s else p) ps
theorem late_perm (k : Bool) (f : A → Int) : ∀ (ps : List A) (s : A), (lateF k f s ps).Perm (s :: ps)
  | [], s => by rw [lateF]
  | p :: ps, s => by
    have a := fun x => late_perm k f ps x
    rw [lateF]
    split
    · cases k with
      | true => exact (a p).cons s
      | false => exact ((a s).cons p).trans (List.Perm.swap s p ps)
    · cases k with
      | true => exact ((a s).cons p).trans (List.Perm.swap s p ps)
      | false => exact (a p).cons s
/-- .. is explained by the ranks -/
theorem late_cmp (k : Bool) (f : A → Int) : ∀ (ps : List A) (s : A), (s :: ps).Nodup → (∀ x ∈ s :: ps, ∀ y ∈ s :: ps, f x = f y → x = y) → ∃ r, cmpF k s ps (lateF k f s ps) = some r ∧ Sat f r
  | [], s, _, _ => ⟨[], cmpF_nil _ _ _, fun p hp => nomatch hp⟩
  | p :: ps, s, hn, hi => by
    have hsp : s ≠ p := fun e => (List.nodup_cons.mp hn).1 (by rw [e]; exact List.mem_cons_self)
    have n1 : (s :: ps).Nodup := hn.sublist (List.Sublist.cons₂ s (List.sublist_cons_self p ps))
    have n2 : (p :: ps).Nodup := (List.nodup_cons.mp hn).2
    have s1 : ∀ x, x ∈ s :: ps → x ∈ s :: p :: ps := fun x hx => by
      rcases List.mem_cons.mp hx with e | e
      · rw [e]; exact List.mem_cons_self
      · exact List.mem_cons_of_mem _ (List.mem_cons_of_mem _ e)
    have s2 : ∀ x, x ∈ p :: ps → x ∈ s :: p :: ps := fun x hx => List.mem_cons_of_mem _ hx
    obtain ⟨r1, e1, q1⟩ := late_cmp k f ps s n1 fun x hx y hy => hi x (s1 x hx) y (s1 y hy)
    obtain ⟨r2, e2, q2⟩ := late_cmp k f ps p n2 fun x hx y hy => hi x (s2 x hx) y (s2 y hy)
    have cons : ∀ {r : List (A × A)} {a b : A}, f a < f b → Sat f r → Sat f ((a, b) :: r) := fun h q z hz => by
      rcases List.mem_cons.mp hz with rfl | hz
      · exact h
      · exact q z hz
    rw [lateF]
    by_cases h : f s < f p
    · rw [if_pos h]
      cases k with
      | true =>
        simp only [if_true]
        rw [cmpF_cons, if_neg (fun z => z.2 rfl), if_neg hsp, e2]
        exact ⟨_, rfl, cons h q2⟩
      | false =>
        simp only [Bool.false_eq_true, if_false]
        rw [cmpF_cons, if_neg (fun z => z.1 rfl), if_pos rfl, e1]
        exact ⟨_, rfl, cons h q1⟩
    · rw [if_neg h]
      have h' : f p < f s := by
        have hne : f s ≠ f p := fun e => hsp (hi s List.mem_cons_self p (List.mem_cons_of_mem _ List.mem_cons_self) e)
        omega
      cases k with
      | true =>
        simp only [if_true]
        rw [cmpF_cons, if_neg (fun z => z.1 rfl), if_pos rfl, e1]
        exact ⟨_, rfl, cons h' q1⟩
      | false =>
        simp only [Bool.false_eq_true, if_false]
        rw [cmpF_cons, if_neg (fun z => z.2 rfl), if_neg hsp, e2]
        exact ⟨_, rfl, cons h' q2⟩
/-- ranks that explain give the row -/
theorem cmp_late (k : Bool) (f : A → Int) : ∀ (ps : List A) (s : A) (ls : List A) (r : List (A × A)), (s :: ps).Perm ls → cmpF k s ps ls = some r → Sat f r → lateF k f s ps = ls
  | [], s, ls, r, hp, _, _ => by
    rw [lateF]
    exact (List.perm_singleton.mp hp.symm).symm
  | p :: ps, s, [], r, hp, _, _ => by simpa using hp.length_eq
  | p :: ps, s, l :: ls, r, hp, hc, hs => by
    rw [cmpF_cons] at hc
    by_cases h : l ≠ p ∧ l ≠ s
    · rw [if_pos h] at hc; cases hc
    · rw [if_neg h] at hc
      obtain ⟨h1, h2⟩ := turn hp h
      cases e : cmpF k (if l = p then s else p) ps ls with
      | none => rw [e] at hc; cases hc
      | some r' =>
        rw [e] at hc
        have hr := Option.some.inj hc
        subst hr
        have ih := cmp_late k f ps _ ls r' h1 e (fun q hq => hs q (List.mem_cons_of_mem _ hq))
        have h0 := hs _ List.mem_cons_self
        rw [lateF]
        by_cases hl : l = p
        · subst hl
          rw [if_pos rfl] at ih
          cases k with
          | true =>
            simp only [if_true] at h0 ⊢
            rw [if_neg (by omega), ih]
          | false =>
            simp only [Bool.false_eq_true, if_false, if_true] at h0 ⊢
            rw [if_pos h0, ih]
        · have e2 : l = s := by
            by_cases q : l = s
            · exact q
            · exact absurd ⟨hl, q⟩ h
          subst e2
          rw [if_neg hl] at ih
          cases k with
          | true =>
            simp only [if_true, if_neg hl] at h0 ⊢
            rw [if_pos h0, ih]
          | false =>
            simp only [Bool.false_eq_true, if_false, if_neg hl] at h0 ⊢
            rw [if_neg (by omega), ih]

/-! ### records, orders -/
/-- a record: the row before, the kind, the row after -/
abbrev Rec (A : Type) := List A × Bool × List A
abbrev Dbl (A : Type) := List A × List A
def Holds1 (f : A → Int) (q : Rec A) : Prop := ∃ r, cmpRow q.2.1 q.1 q.2.2 = some r ∧ Sat f r
/-- some order explains all records -/
def Expl (l : List (Rec A)) : Prop := ∃ f : A → Int, ∀ q ∈ l, Holds1 f q

theorem holds1_not {f : A → Int} {b l : List A} {k : Bool} (h : Holds1 f (b, k, l)) : Holds1 (fun x => - f x) (b, !k, l) := by
  obtain ⟨r, e, s⟩ := h
  cases b with
  | nil => cases e
  | cons s0 ps =>
    have e' : cmpF k s0 ps l = some r := e
    refine ⟨r.map Prod.swap, ?_, fun p hp => ?_⟩
    · show cmpF (!k) s0 ps l = _
      rw [cmpF_not, e']
      rfl
    · obtain ⟨q, hq, rfl⟩ := List.mem_map.mp hp
      have := s q hq
      show - f q.2 < - f q.1
      omega
theorem holds1_last {f : A → Int} {b l : List A} {k : Bool} {z : A} (hp : b.Perm l) (hz : l.getLast? = some z) (h : Holds1 f (b, k, l)) : ∀ x ∈ b, x = z ∨ (if k = true then f x < f z else f z < f x) := by
  cases k with
  | true =>
    obtain ⟨r, e, s⟩ := h
    cases b with
    | nil => cases e
    | cons s0 ps => exact cmp_last ps s0 l r f z hp e s hz
  | false =>
    obtain ⟨r, e, s⟩ := holds1_not h
    cases b with
    | nil => cases e
    | cons s0 ps =>
      intro x hx
      rcases cmp_last ps s0 l r (fun x => - f x) z hp e s hz x hx with q | q
      · exact .inl q
      · refine .inr ?_
        rw [if_neg Bool.false_ne_true]
        have q : - f x < - f z := q
        omega
theorem holds1_one {b l : List A} {r : List (A × A)} (hp : b.Perm l) (hn : l.Nodup) (h : cmpRow true b l = some r) : Expl [(b, true, l)] := by
  cases b with
  | nil => cases h
  | cons s ps =>
    refine ⟨fun x => (l.idxOf x : Nat), fun q hq => ?_⟩
    rw [List.mem_singleton.mp hq]
    refine ⟨r, h, fun p hp' => ?_⟩
    obtain ⟨_, _, c⟩ := cmp_self ps s l r hp hn h p hp'
    exact Int.ofNat_lt.mpr c
theorem cmpRow_not (k : Bool) (b l : List A) : (cmpRow (!k) b l).isSome = (cmpRow k b l).isSome := by
  cases b with
  | nil => rfl
  | cons s ps =>
    show (cmpF (!k) s ps l).isSome = (cmpF k s ps l).isSome
    rw [cmpF_not]
    cases cmpF k s ps l <;> rfl

/-! ### kinds by the last people -/
def withKinds : List (Dbl A) → List Bool → List (Rec A)
  | (b, l) :: ds, k :: ks => (b, k, l) :: withKinds ds ks
  | _, _ => []
theorem withKinds_get : ∀ {ds : List (Dbl A)} {ks : List Bool} {i : Nat} {d : Dbl A} {k : Bool}, ds[i]? = some d → ks[i]? = some k → (withKinds ds ks)[i]? = some (d.1, k, d.2)
  | [], _, _, _, _, h, _ => by simp at h
  | _ :: _, [], _, _, _, _, h => by simp at h
  | (b, l) :: ds, k0 :: ks, 0, d, k, h1, h2 => by
    simp at h1 h2
    subst h1 h2
    rfl
  | (b, l) :: ds, k0 :: ks, i + 1, d, k, h1, h2 => by
    show (withKinds ds ks)[i]? = _
    exact withKinds_get (by simpa using h1) (by simpa using h2)
theorem withKinds_len : ∀ {ds : List (Dbl A)} {ks : List Bool}, ks.length = ds.length → (withKinds ds ks).length = ds.length
  | [], [], _ => rfl
  | [], _ :: _, h => by simp at h
  | _ :: _, [], h => by simp at h
  | (b, l) :: ds, k :: ks, h => by
    show (withKinds ds ks).length + 1 = ds.length + 1
    rw [withKinds_len (by simpa using h)]
theorem withKinds_mem : ∀ {ds : List (Dbl A)} {ks : List Bool} {q : Rec A}, q ∈ withKinds ds ks → (q.1, q.2.2) ∈ ds
  | [], _, _, h => by cases h
  | _ :: _, [], _, h => by cases h
  | (b, l) :: ds, k :: ks, q, h => by
    rcases List.mem_cons.mp h with rfl | h
    · exact List.mem_cons_self
    · exact List.mem_cons_of_mem _ (withKinds_mem h)
theorem withKinds_take : ∀ (ds : List (Dbl A)) (ks : List Bool) (n : Nat), withKinds (ds.take n) (ks.take n) = (withKinds ds ks).take n
  | [], ks, n => by
    rw [List.take_nil]
    show [] = List.take n []
    rw [List.take_nil]
  | (b, l) :: ds, [], n => by
    rw [List.take_nil]
    show _ = List.take n []
    rw [List.take_nil]
    cases n <;> rfl
  | (b, l) :: ds, k :: ks, 0 => rfl
  | (b, l) :: ds, k :: ks, n + 1 => by
    show (b, k, l) :: withKinds (ds.take n) (ks.take n) = (b, k, l) :: (withKinds ds ks).take n
    rw [withKinds_take ds ks n]
theorem holds_not {f : A → Int} : ∀ {ds : List (Dbl A)} {ks : List Bool}, (∀ q ∈ withKinds ds ks, Holds1 f q) → ∀ q ∈ withKinds ds (ks.map not), Holds1 (fun x => - f x) q
  | [], _, _, q, hq => by cases hq
  | _ :: _, [], _, q, hq => by cases hq
  | (b, l) :: ds, k :: ks, h, q, hq => by
    have hq : q ∈ (b, !k, l) :: withKinds ds (ks.map not) := hq
    rcases List.mem_cons.mp hq with rfl | hq
    · exact holds1_not (h _ List.mem_cons_self)
    · exact holds_not (fun q hq => h q (List.mem_cons_of_mem _ hq)) q hq
theorem expl_not {ds : List (Dbl A)} {ks : List Bool} : Expl (withKinds ds ks) → Expl (withKinds ds (ks.map not)) := fun ⟨f, h⟩ => ⟨fun x => - f x, holds_not h⟩
theorem expl_sub {l l' : List (Rec A)} (h : Expl l) (hs : ∀ q ∈ l', q ∈ l) : Expl l' :=
  let ⟨f, e⟩ := h; ⟨f, fun q hq => e q (hs q hq)⟩

/-- rows of the same names, at least two -/
structure Good (names : List A) (ds : List (Dbl A)) : Prop where
  two : 2 ≤ names.length
  nd : names.Nodup
  fst : ∀ d ∈ ds, d.1.Perm names
  snd : ∀ d ∈ ds, d.2.Perm names
theorem Good.sub {names : List A} {ds ds' : List (Dbl A)} (G : Good names ds) (h : ∀ d ∈ ds', d ∈ ds) : Good names ds' := ⟨G.two, G.nd, fun d q => G.fst d (h d q), fun d q => G.snd d (h d q)⟩
theorem last_mem {l : List A} {z : A} (h : l.getLast? = some z) : z ∈ l := List.mem_of_getLast? h
theorem last_some {names : List A} {l : List A} (h2 : 2 ≤ names.length) (hp : l.Perm names) : ∃ z, l.getLast? = some z := by
  cases e : l.getLast? with
  | some z => exact ⟨z, rfl⟩
  | none =>
    have : l = [] := List.getLast?_eq_none_iff.mp e
    subst this
    have := hp.length_eq
    simp at this
    omega
theorem other_than {names : List A} (h2 : 2 ≤ names.length) (hn : names.Nodup) (z : A) : ∃ x ∈ names, x ≠ z := by
  match names, h2, hn with
  | a :: b :: r, _, hn =>
    by_cases e : a = z
    · refine ⟨b, List.mem_cons_of_mem _ List.mem_cons_self, fun q => ?_⟩
      exact (List.nodup_cons.mp hn).1 (by rw [e, ← q]; exact List.mem_cons_self)
    · exact ⟨a, List.mem_cons_self, e⟩
/-- passes of one kind have the same last person, passes of different kinds different ones -/
theorem kinds_last {names : List A} {ds : List (Dbl A)} {f : A → Int} (G : Good names ds) {d d' : Dbl A} {k k' : Bool} (m : d ∈ ds) (m' : d' ∈ ds) (h : Holds1 f (d.1, k, d.2)) (h' : Holds1 f (d'.1, k', d'.2)) :
    (d.2.getLast? = d'.2.getLast? ↔ k = k') := by
  obtain ⟨z, hz⟩ := last_some G.two (G.snd d m)
  obtain ⟨z', hz'⟩ := last_some G.two (G.snd d' m')
  have p := (G.fst d m).trans (G.snd d m).symm
  have p' := (G.fst d' m').trans (G.snd d' m').symm
  have mz : z ∈ names := (G.snd d m).subset (last_mem hz)
  have mz' : z' ∈ names := (G.snd d' m').subset (last_mem hz')
  have L := fun x (hx : x ∈ names) => holds1_last p hz h x ((G.fst d m).symm.subset hx)
  have L' := fun x (hx : x ∈ names) => holds1_last p' hz' h' x ((G.fst d' m').symm.subset hx)
  rw [hz, hz']
  obtain ⟨x, hx, nx⟩ := other_than G.two G.nd z
  constructor
  · intro e
    have e : z = z' := Option.some.inj e
    subst e
    rcases L x hx with q | q
    · exact absurd q nx
    rcases L' x hx with q' | q'
    · exact absurd q' nx
    cases k <;> cases k' <;> simp only [if_true, Bool.false_eq_true, if_false] at q q'
    · rfl
    · omega
    · omega
    · rfl
  · rintro rfl
    congr 1
    rcases L z' mz' with q | q
    · exact q.symm
    rcases L' z mz with q' | q'
    · exact q'
    cases k <;> simp only [if_true, Bool.false_eq_true, if_false] at q q' <;> omega

/-- the word that follows from the last people -/
def kindsOf (first : Bool) : List (Dbl A) → List Bool
  | [] => []
  | d0 :: r => (d0 :: r).map fun d => if d.2.getLast? = d0.2.getLast? then first else !first
theorem kindsOf_cons (first : Bool) (d0 : Dbl A) (r : List (Dbl A)) : kindsOf first (d0 :: r) = (d0 :: r).map (fun d => if d.2.getLast? = d0.2.getLast? then first else !first) := rfl
theorem kindsOf_len (first : Bool) (ds : List (Dbl A)) : (kindsOf first ds).length = ds.length := by
  cases ds with
  | nil => rfl
  | cons d r => exact List.length_map _
theorem kindsOf_not (first : Bool) (ds : List (Dbl A)) : (kindsOf first ds).map not = kindsOf (!first) ds := by
  cases ds with
  | nil => rfl
  | cons d r =>
    rw [kindsOf_cons, kindsOf_cons, List.map_map]
    refine List.map_congr_left fun x _ => ?_
    show (!(if x.2.getLast? = d.2.getLast? then first else !first)) = (if x.2.getLast? = d.2.getLast? then !first else !!first)
    split <;> simp
theorem kindsOf_get {first : Bool} {d0 : Dbl A} {ds : List (Dbl A)} {i : Nat} {d : Dbl A} (h : (d0 :: ds)[i]? = some d) : (kindsOf first (d0 :: ds))[i]? = some (if d.2.getLast? = d0.2.getLast? then first else !first) := by
  rw [kindsOf_cons, List.getElem?_map, h]
  rfl
theorem kindsOf_take (first : Bool) (ds : List (Dbl A)) {n : Nat} (hn : 0 < n) : kindsOf first (ds.take n) = (kindsOf first ds).take n := by
  cases ds with
  | nil =>
    rw [List.take_nil]
    show [] = List.take n []
    rw [List.take_nil]
  | cons d r =>
    obtain ⟨m, rfl⟩ : ∃ m, n = m + 1 := ⟨n - 1, by omega⟩
    rw [List.take_succ_cons, kindsOf_cons, kindsOf_cons, ← List.map_take, List.take_succ_cons]
/-- a word that is explained follows from the last people -/
theorem expl_kinds {names : List A} {ds : List (Dbl A)} {ks : List Bool} (G : Good names ds) (hl : ks.length = ds.length) (h : Expl (withKinds ds ks)) : ∃ first, ks = kindsOf first ds := by
  obtain ⟨f, e⟩ := h
  cases ds with
  | nil =>
    refine ⟨true, ?_⟩
    exact List.eq_nil_of_length_eq_zero (by simpa using hl)
  | cons d0 ds =>
    cases ks with
    | nil => simp at hl
    | cons k0 ks =>
      refine ⟨k0, List.ext_getElem? fun i => ?_⟩
      by_cases hi : i < (d0 :: ds).length
      · have hd : (d0 :: ds)[i]? = some (d0 :: ds)[i] := List.getElem?_eq_getElem hi
        have hk : (k0 :: ks)[i]? = some ((k0 :: ks)[i]'(by omega)) := List.getElem?_eq_getElem (by omega)
        rw [kindsOf_get hd, hk]
        have h0 : Holds1 f (d0.1, k0, d0.2) := e _ (List.mem_of_getElem? (withKinds_get (i := 0) (d := d0) (k := k0) rfl rfl))
        have h1 := e _ (List.mem_of_getElem? (withKinds_get hd hk))
        have q := kinds_last G (List.getElem_mem hi) List.mem_cons_self h1 h0
        congr 1
        by_cases z : (d0 :: ds)[i].2.getLast? = d0.2.getLast?
        · rw [if_pos z]; exact q.mp z
        · rw [if_neg z]
          have nz : ¬ (k0 :: ks)[i]'(by omega) = k0 := fun w => z (q.mpr w)
          revert nz
          cases (k0 :: ks)[i]'(by omega) <;> cases k0 <;> simp
      · rw [List.getElem?_eq_none (by omega), List.getElem?_eq_none (by rw [kindsOf_len]; omega)]
/-- with one letter changed there is no order -/
theorem bent_none {names : List A} {ds : List (Dbl A)} {ks : List Bool} (G : Good names ds) (hl : ks.length = ds.length) (h : Expl (withKinds ds ks)) {j : Nat} (hj : j < ks.length) (h2 : 2 ≤ ks.length) {k : Bool} (hk : ks[j]? = some k) :
    ¬ Expl (withKinds ds (ks.take j ++ (!k) :: ks.drop (j + 1))) := by
  rintro ⟨f', e'⟩
  obtain ⟨f, e⟩ := h
  have bl : (ks.take j ++ (!k) :: ks.drop (j + 1)).length = ks.length := by
    rw [List.length_append, List.length_cons, List.length_take, List.length_drop]
    omega
  -- another place
  obtain ⟨i, hi, hij⟩ : ∃ i, i < ks.length ∧ i ≠ j := by
    by_cases z : j = 0
    · exact ⟨1, by omega, by omega⟩
    · exact ⟨0, by omega, by omega⟩
  have bj : (ks.take j ++ (!k) :: ks.drop (j + 1))[j]? = some (!k) := by
    rw [List.getElem?_append_right (by rw [List.length_take]; omega), List.length_take, show j - min j ks.length = 0 by omega]
    rfl
  have bi : (ks.take j ++ (!k) :: ks.drop (j + 1))[i]? = ks[i]? := by
    by_cases z : i < j
    · rw [List.getElem?_append_left (by rw [List.length_take]; omega), List.getElem?_take_of_lt z]
    · rw [List.getElem?_append_right (by rw [List.length_take]; omega), List.length_take, show i - min j ks.length = (i - j - 1) + 1 by omega, List.getElem?_cons_succ, List.getElem?_drop, show j + 1 + (i - j - 1) = i by omega]
  have hdi : ds[i]? = some (ds[i]'(by omega)) := List.getElem?_eq_getElem (by omega)
  have hdj : ds[j]? = some (ds[j]'(by omega)) := List.getElem?_eq_getElem (by omega)
  have hki : ks[i]? = some ks[i] := List.getElem?_eq_getElem hi
  have mi : ds[i]'(by omega) ∈ ds := List.getElem_mem _
  have mj : ds[j]'(by omega) ∈ ds := List.getElem_mem _
  have a := kinds_last G mi mj (e _ (List.mem_of_getElem? (withKinds_get hdi hki))) (e _ (List.mem_of_getElem? (withKinds_get hdj hk)))
  have b := kinds_last G mi mj (e' _ (List.mem_of_getElem? (withKinds_get hdi (bi.trans hki)))) (e' _ (List.mem_of_getElem? (withKinds_get hdj bj)))
  have c := a.symm.trans b
  revert c
  cases ks[i] <;> cases k <;> simp

/-! ### the order that is found -/
theorem least (f : A → Int) : ∀ l : List A, l ≠ [] → ∃ n ∈ l, ∀ m ∈ l, f n ≤ f m
  | [], h => absurd rfl h
  | [a], _ => ⟨a, List.mem_cons_self, fun m hm => by rw [List.mem_singleton.mp hm]; exact Int.le_refl _⟩
  | a :: b :: r, _ => by
    obtain ⟨n, hn, h⟩ := least f (b :: r) (List.cons_ne_nil _ _)
    by_cases q : f a ≤ f n
    · refine ⟨a, List.mem_cons_self, fun m hm => ?_⟩
      rcases List.mem_cons.mp hm with rfl | hm
      · exact Int.le_refl _
      · exact Int.le_trans q (h m hm)
    · refine ⟨n, List.mem_cons_of_mem _ hn, fun m hm => ?_⟩
      rcases List.mem_cons.mp hm with rfl | hm
      · omega
      · exact h m hm
theorem stuck {keys order : List A} {bel : A → List A} {f : A → Int} (hk : ∀ n ∈ keys, ∀ o ∈ bel n, o ∈ keys) (hf : ∀ n ∈ keys, ∀ o ∈ bel n, f o < f n)
    (hs : ∀ n ∈ keys, n ∉ order → ∃ o ∈ bel n, o ∉ order) : ∀ n ∈ keys, n ∈ order := fun n hn => by
  by_cases q : n ∈ order
  · exact q
  · exfalso
    have mem : ∀ x, x ∈ keys.filter (fun y => decide (y ∉ order)) ↔ x ∈ keys ∧ x ∉ order := fun x => by
      rw [List.mem_filter, decide_eq_true_iff]
    obtain ⟨m, hm, hl⟩ := least f (keys.filter fun y => decide (y ∉ order)) (List.ne_nil_of_mem ((mem n).mpr ⟨hn, q⟩))
    obtain ⟨h1, h2⟩ := (mem m).mp hm
    obtain ⟨o, ho, no⟩ := hs m h1 h2
    have a := hf m h1 o ho
    have b := hl o ((mem o).mpr ⟨hk m h1 o ho, no⟩)
    omega
/-- what the order so far is -/
structure Sofar (keys : List A) (bel : A → List A) (order : List A) : Prop where
  nd : order.Nodup
  sub : ∀ n ∈ order, n ∈ keys
  bel : ∀ (i : Nat) (n : A), order[i]? = some n → ∀ o ∈ bel n, o ∈ order.take i
theorem Sofar.nil {keys : List A} {bel : A → List A} : Sofar keys bel [] := ⟨List.nodup_nil, fun _ h => (nomatch h), fun i n h => by simp at h⟩
theorem Sofar.push {keys : List A} {bel : A → List A} {order : List A} {n : A} (S : Sofar keys bel order) (hn : n ∈ keys) (ho : n ∉ order) (hb : ∀ o ∈ bel n, o ∈ order) : Sofar keys bel (order ++ [n]) := by
  refine ⟨?_, fun m hm => ?_, fun i m hm o hmo => ?_⟩
  · rw [List.nodup_append]
    refine ⟨S.nd, by simp, fun a ha b hb' => ?_⟩
    rw [List.mem_singleton.mp hb']
    rintro rfl
    exact ho ha
  · rcases List.mem_append.mp hm with h | h
    · exact S.sub m h
    · rw [List.mem_singleton.mp h]; exact hn
  · by_cases hi : i < order.length
    · rw [List.getElem?_append_left hi] at hm
      rw [List.take_append_of_le_length (Nat.le_of_lt hi)]
      exact S.bel i m hm o hmo
    · rw [List.getElem?_append_right (by omega)] at hm
      have e0 : i - order.length = 0 := by
        rcases Nat.eq_zero_or_pos (i - order.length) with z | z
        · exact z
        · rw [List.getElem?_eq_none (show [n].length ≤ _ from z)] at hm; cases hm
      rw [e0] at hm
      have e1 : n = m := Option.some.inj hm
      subst e1
      rw [show i = order.length by omega, List.take_left]
      exact hb o hmo
theorem Sofar.done {keys : List A} {bel : A → List A} {order : List A} (S : Sofar keys bel order) (hk : keys.Nodup) (hl : keys.length ≤ order.length) : order.Perm keys := by
  refine (List.perm_ext_iff_of_nodup S.nd hk).mpr fun a => ⟨S.sub a, fun ha => ?_⟩
  by_cases q : a ∈ order
  · exact q
  · exfalso
    have h := List.Nodup.length_le_of_subset (l₁ := a :: order) (l₂ := keys) (List.nodup_cons.mpr ⟨q, S.nd⟩) (fun x hx => by
      rcases List.mem_cons.mp hx with rfl | hx
      · exact ha
      · exact S.sub x hx)
    rw [List.length_cons] at h
    omega
theorem Sofar.before {keys : List A} {bel : A → List A} {order : List A} (S : Sofar keys bel order) {n o : A} (hn : n ∈ order) (ho : o ∈ bel n) : order.idxOf o < order.idxOf n := by
  have hi : order.idxOf n < order.length := List.idxOf_lt_length_iff.mpr hn
  have hg : order[order.idxOf n]? = some n := by rw [List.getElem?_eq_getElem hi, List.getElem_idxOf hi]
  have hm := S.bel _ _ hg o ho
  obtain ⟨j, hj, e⟩ := List.mem_iff_getElem.mp hm
  rw [List.length_take] at hj
  have e2 : order[j]'(by omega) = o := by rw [← e, List.getElem_take]
  have e3 : order.idxOf o = j := by rw [← e2]; exact S.nd.idxOf_getElem j (by omega)
  omega
theorem Sofar.lt {keys : List A} {bel : A → List A} {order : List A} (S : Sofar keys bel order) (hk : keys.Nodup) (hs : ∃ n ∈ keys, n ∉ order) : order.length < keys.length := by
  obtain ⟨n, hn, no⟩ := hs
  have h := List.Nodup.length_le_of_subset (l₁ := n :: order) (l₂ := keys) (List.nodup_cons.mpr ⟨no, S.nd⟩) (fun x hx => by
    rcases List.mem_cons.mp hx with rfl | hx
    · exact hn
    · exact S.sub x hx)
  exact h
theorem Sofar.le {keys : List A} {bel : A → List A} {order : List A} (S : Sofar keys bel order) : order.length ≤ keys.length := List.Nodup.length_le_of_subset S.nd (fun x hx => S.sub x hx)

/-! ### who is compared is of the row -/
theorem cmp_mem {k : Bool} : ∀ (ps : List A) (s : A) (ls : List A) (r : List (A × A)), cmpF k s ps ls = some r → ∀ q ∈ r, q.1 ∈ s :: ps ∧ q.2 ∈ s :: ps
  | [], s, ls, r, hc, q, hq => by
    rw [cmpF_nil] at hc
    cases hc
    cases hq
  | p :: ps, s, [], r, hc, q, hq => by
    rw [cmpF] at hc
    cases hc
    cases hq
  | p :: ps, s, l :: ls, r, hc, q, hq => by
    rw [cmpF_cons] at hc
    by_cases h : l ≠ p ∧ l ≠ s
    · rw [if_pos h] at hc; cases hc
    · rw [if_neg h] at hc
      have hl : l = p ∨ l = s := by
        by_cases z : l = p
        · exact .inl z
        · by_cases y : l = s
          · exact .inr y
          · exact absurd ⟨z, y⟩ h
      have ml : l ∈ s :: p :: ps := by rcases hl with rfl | rfl <;> simp
      have mst : (if l = p then s else p) ∈ s :: p :: ps := by split <;> simp
      cases e : cmpF k (if l = p then s else p) ps ls with
      | none => rw [e] at hc; cases hc
      | some r' =>
        rw [e] at hc
        have hr := Option.some.inj hc
        subst hr
        rcases List.mem_cons.mp hq with rfl | hq
        · cases k
          · exact ⟨mst, ml⟩
          · exact ⟨ml, mst⟩
        · obtain ⟨a, b⟩ := cmp_mem ps _ ls r' e q hq
          have up : ∀ x, x ∈ (if l = p then s else p) :: ps → x ∈ s :: p :: ps := fun x hx => by
            rcases List.mem_cons.mp hx with z | z
            · rw [z]; exact mst
            · exact List.mem_cons_of_mem _ (List.mem_cons_of_mem _ z)
          exact ⟨up _ a, up _ b⟩
theorem cmpRow_mem {k : Bool} {b l : List A} {r : List (A × A)} (h : cmpRow k b l = some r) : ∀ q ∈ r, q.1 ∈ b ∧ q.2 ∈ b := by
  cases b with
  | nil => cases h
  | cons s ps => exact cmp_mem ps s l r h
/-- below tells who is compared as shorter in some record -/
def BelOf (bel : A → List A) (l : List (Rec A)) : Prop := ∀ n o, o ∈ bel n ↔ ∃ q ∈ l, ∃ r, cmpRow q.2.1 q.1 q.2.2 = some r ∧ (o, n) ∈ r
theorem bel_of_holds {bel : A → List A} {l : List (Rec A)} {f : A → Int} (B : BelOf bel l) (h : ∀ q ∈ l, Holds1 f q) : ∀ n, ∀ o ∈ bel n, f o < f n := fun n o ho => by
  obtain ⟨q, hq, r, e, m⟩ := (B n o).mp ho
  obtain ⟨r', e', s⟩ := h q hq
  rw [e] at e'
  cases e'
  exact s _ m
theorem holds_of_bel {bel : A → List A} {l : List (Rec A)} {f : A → Int} (B : BelOf bel l) (hs : ∀ q ∈ l, (cmpRow q.2.1 q.1 q.2.2).isSome = true) (h : ∀ n, ∀ o ∈ bel n, f o < f n) : ∀ q ∈ l, Holds1 f q := fun q hq => by
  obtain ⟨r, e⟩ := Option.isSome_iff_exists.mp (hs q hq)
  exact ⟨r, e, fun p hp => h p.2 p.1 ((B p.2 p.1).mpr ⟨q, hq, r, e, hp⟩)⟩
/-- an order as ranks -/
def rankOf (l : List A) : A → Int := fun x => (l.idxOf x : Nat)
/-- the order explains the records -/
def ExplBy (os : List A) (l : List (Rec A)) : Prop := ∀ q ∈ l, Holds1 (rankOf os) q
theorem ExplBy.expl {os : List A} {l : List (Rec A)} (h : ExplBy os l) : Expl l := ⟨_, h⟩
theorem idx_rev {os : List A} (hn : os.Nodup) {x : A} (hx : x ∈ os) : os.reverse.idxOf x = os.length - 1 - os.idxOf x := by
  have hi : os.idxOf x < os.length := List.idxOf_lt_length_iff.mpr hx
  have hj : os.length - 1 - os.idxOf x < os.reverse.length := by rw [List.length_reverse]; omega
  have e : os.reverse[os.length - 1 - os.idxOf x] = x := by
    rw [List.getElem_reverse]
    have : os.length - 1 - (os.length - 1 - os.idxOf x) = os.idxOf x := by omega
    simp only [this]
    exact List.getElem_idxOf hi
  have := ((List.reverse_perm os).nodup_iff.mpr hn).idxOf_getElem _ hj
  rw [e] at this
  exact this
/-- the mirrored word, the reversed order -/
theorem rev_holds {os : List A} (hn : os.Nodup) {b l : List A} {k : Bool} (hb : ∀ x ∈ b, x ∈ os) (h : Holds1 (rankOf os) (b, k, l)) : Holds1 (rankOf os.reverse) (b, !k, l) := by
  obtain ⟨r, e, s⟩ := holds1_not h
  refine ⟨r, e, fun p hp => ?_⟩
  obtain ⟨m1, m2⟩ := cmpRow_mem e p hp
  have a := s p hp
  have h1 : os.idxOf p.1 < os.length := List.idxOf_lt_length_iff.mpr (hb _ m1)
  have h2 : os.idxOf p.2 < os.length := List.idxOf_lt_length_iff.mpr (hb _ m2)
  have a : - ((os.idxOf p.1 : Nat) : Int) < - ((os.idxOf p.2 : Nat) : Int) := a
  show ((os.reverse.idxOf p.1 : Nat) : Int) < ((os.reverse.idxOf p.2 : Nat) : Int)
  rw [idx_rev hn (hb _ m1), idx_rev hn (hb _ m2)]
  omega
theorem rank_inj {os : List A} {x y : A} (hx : x ∈ os) (hy : y ∈ os) (e : rankOf os x = rankOf os y) : x = y := by
  have e : os.idxOf x = os.idxOf y := Int.ofNat.inj e
  have h1 : os.idxOf x < os.length := List.idxOf_lt_length_iff.mpr hx
  have h2 : os.idxOf y < os.length := List.idxOf_lt_length_iff.mpr hy
  rw [← List.getElem_idxOf h1, ← List.getElem_idxOf h2]
  simp only [e]
def lateRow (k : Bool) (f : A → Int) : List A → List A
  | [] => []
  | s :: ps => lateF k f s ps
theorem lateRow_perm (k : Bool) (f : A → Int) (b : List A) : (lateRow k f b).Perm b := by
  cases b with
  | nil => exact List.Perm.nil
  | cons s ps => exact late_perm k f ps s
theorem lateRow_holds {k : Bool} {os b : List A} (hb : b ≠ []) (hn : b.Nodup) (hs : ∀ x ∈ b, x ∈ os) : Holds1 (rankOf os) (b, k, lateRow k (rankOf os) b) := by
  cases b with
  | nil => exact absurd rfl hb
  | cons s ps => exact late_cmp k (rankOf os) ps s hn fun x hx y hy e => rank_inj (hs x hx) (hs y hy) e
theorem holds_late {k : Bool} {f : A → Int} {b l : List A} (hp : b.Perm l) (h : Holds1 f (b, k, l)) : lateRow k f b = l := by
  obtain ⟨r, e, s⟩ := h
  cases b with
  | nil => cases e
  | cons s0 ps => exact cmp_late k f ps s0 l r hp e s
end
end LP

set_option Elab.async false
set_option linter.all false
set_option maxRecDepth 100000
set_option maxHeartbeats 4000000
/-! rules that the hand layer lacks -/
namespace LP
open PySem PySem.Spec PyProof.Rows L2

/-! ### a list or a tuple -/
inductive SK where | l | t
def Sq (k : SK) (K : PySem.W.Frag) (H : Hp) (a : Addr) (xs : List V) : Prop := match k with
  | .l => SqL K H a xs
  | .t => SqT K H a xs
def ItAt (k : SK) (h : Heap) (it a : Addr) (i : Nat) : Prop := match k with
  | .l => h.IsListIter it a i
  | .t => h.IsTupleIter it a i
def HSq (k : SK) (h : Heap) (a : Addr) (its : Array Value) : Prop := match k with
  | .l => h.IsList a its
  | .t => h.IsTuple a its
def itOb (k : SK) (a : Addr) : Obj := match k with
  | .l => { cls := .type "list_iterator", data := .fields #[.ref a, .int 0 0] }
  | .t => { cls := .type "tuple_iterator", data := .fields #[.ref a, .int 0 0] }
theorem drawsK (k : SK) {P : Program} {w : World} {A : Around} (hh : A.handled = none) (it a : Addr) (hne : a ≠ it) (its : Array Value) :
    Draws P w A it [it, a] its.size (fun i v => its[i]? = some v) (fun i h => ItAt k h it a i ∧ HSq k h a its) := by
  cases k with
  | l => exact Draws.list hh it a hne its
  | t => exact Draws.tuple hh it a hne its
theorem beginsK (k : SK) (a : Addr) (its : Array Value) : Begins (.ref a) (itOb k a) fun h => HSq k h a its := by
  cases k with
  | l => exact begins_list a its
  | t => exact begins_tuple a its
theorem ItAt.keep {k : SK} {h h' : Heap} {it a : Addr} {i : Nat} (s : ItAt k h it a i) (q : ∀ o, h.get? it = some o → h'.get? it = some o) : ItAt k h' it a i := by
  cases k with
  | l => exact Heap.IsListIter.at (show h.IsListIter it a i from s) q
  | t => exact Heap.IsTupleIter.at (show h.IsTupleIter it a i from s) q
theorem ItAt.obj {k : SK} {h : Heap} {it a : Addr} {i : Nat} (s : ItAt k h it a i) : ∃ o, h.get? it = some o ∧ ∀ v, o.data ≠ .cell v := by
  cases k with
  | l =>
    obtain ⟨o, e, _, d⟩ := (show h.IsListIter it a i from s)
    exact ⟨o, e, fun v q => by rw [d] at q; cases q⟩
  | t =>
    obtain ⟨o, e, _, d⟩ := (show h.IsTupleIter it a i from s)
    exact ⟨o, e, fun v q => by rw [d] at q; cases q⟩
theorem ItAt.zero {k : SK} {h : Heap} {it a : Addr} (e : h.get? it = some (itOb k a)) : ItAt k h it a 0 := by
  cases k with
  | l => exact ⟨_, e, rfl, rfl⟩
  | t => exact ⟨_, e, rfl, rfl⟩
section
variable {X : Cx} {pins : List (Addr × Obj)} {σ : L2.St} {H : Hp} {s : Shared} {a : Addr} {xs ys : List V}
theorem sqAt {k : SK} (I : Inv X pins σ H s) (h : Sq k X.K H a xs) : ∃ its : List Value, Vals xs its ∧ HSq k s.heap a its.toArray ∧ a < s.heap.objs.size := by
  cases k with
  | l =>
    obtain ⟨its, r, p, _⟩ := I.list h
    exact ⟨its, r, p.isList, p.lt⟩
  | t =>
    obtain ⟨its, r, p, _⟩ := I.tuple h
    obtain ⟨o, e, q⟩ := id p
    exact ⟨its, r, ⟨o, e, q⟩, Heap.lt_size e⟩
theorem sq_inj {k : SK} (I : Inv X pins σ H s) (h : Sq k X.K H a xs) (h' : Sq k X.K H a ys) : xs = ys := by
  cases k with
  | l => exact I.list_inj h h'
  | t => exact I.tuple_inj h h'
end

/-! ### zip of any two -/
def ItzK (k1 k2 : SK) (K : PySem.W.Frag) (a b : Addr) : It :=
  ⟨fun i H => ∃ (xs ys : List V) (x y : V), Sq k1 K H a xs ∧ Sq k2 K H b ys ∧ xs[i]? = some x ∧ ys[i]? = some y,
    fun i H v H' => ∃ T x y, v = .ref T ∧ H T = none ∧ H' = upd H T (.tup [x, y]) ∧ (∀ xs, Sq k1 K H a xs → xs[i]? = some x) ∧ ∀ ys, Sq k2 K H b ys → ys[i]? = some y,
    fun i H => ∃ xs ys : List V, Sq k1 K H a xs ∧ Sq k2 K H b ys ∧ min xs.length ys.length = i⟩
theorem zip_cells {c z TI TO i1 i2 : Addr} (h : c ∈ [z, TI, TO, i1, i2]) : c = z ∨ c = TI ∨ c = TO ∨ c = i1 ∨ c = i2 := by simpa using h
theorem zip_wr {c z TI TO i1 i2 : Addr} (h : c ∉ [z, TI, TO, i1, i2]) : c ∉ [z, TO, i1, i2] := fun q => h (by
  have q' : c = z ∨ c = TO ∨ c = i1 ∨ c = i2 := by simpa using q
  rcases q' with e | e | e | e <;> simp [e])
theorem turn_zipK {P : Program} {w : World} {K : PySem.W.Frag} {elts : List Expr} {kk : Nat} {tpos : Pos} {a b z TI TO i1 i2 : Addr} (k1 k2 : SK) (S : ZipSep2 z TI TO i1 i2 [i1, a] [i2, b]) (n1 : a ≠ i1) (n2 : b ≠ i2) :
    Turn P w K (.Tuple elts kk tpos) (ItzK k1 k2 K a b) [z, TI, TO, i1, i2] z
      (fun i h => IsZip h z TI TO .none ∧ IsTupOf2 h TI (.ref i1) (.ref i2) ∧ (∃ x y, IsTupOf2 h TO x y) ∧ ItAt k1 h i1 a i ∧ ItAt k2 h i2 b i) where
  mem := List.mem_cons_self
  obj := fun i h st c hc => by
    obtain ⟨hz, hTI, ⟨x, y, hTO⟩, h1, h2⟩ := st
    rcases zip_cells hc with q | q | q | q | q
    · subst q; exact ⟨_, hz, fun v q => nomatch q⟩
    · subst q; exact ⟨_, hTI, fun v q => nomatch q⟩
    · subst q; exact ⟨_, hTO, fun v q => nomatch q⟩
    · subst q; exact h1.obj
    · subst q; exact h2.obj
  keep := fun i h h' st k => by
    obtain ⟨hz, hTI, ⟨x, y, hTO⟩, h1, h2⟩ := st
    exact ⟨k z (by simp) _ hz, k TI (by simp) _ hTI, ⟨x, y, k TO (by simp) _ hTO⟩, h1.keep (k i1 (by simp)), h2.keep (k i2 (by simp))⟩
  item := by
    intro X hP hw hK hc i pins s σ H E I hf st hg
    subst hP hw hK
    obtain ⟨xs, ys, x, y, hqx, hqy, hx, hy⟩ := hg
    obtain ⟨hz, hTI, hTO, h1, h2⟩ := st
    obtain ⟨its, rv, p, _⟩ := sqAt I hqx
    obtain ⟨its2, rv2, p2, _⟩ := sqAt I hqy
    obtain ⟨u, hu, ru⟩ := rv.get hx
    obtain ⟨u2, hu2, ru2⟩ := rv2.get hy
    have hh : X.A.in1.handled = none := I.ok.hd hc
    have W := WalksT.zipD2 S (drawsK (P := X.prog) (w := X.w) k1 hh i1 a n1 its.toArray) (drawsK (P := X.prog) (w := X.w) k2 hh i2 b n2 its2.toArray)
    have l1 : i < its.toArray.size := by
      have := (List.getElem?_eq_some_iff.mp hu).1
      simpa using this
    have l2 : i < its2.toArray.size := by
      have := (List.getElem?_eq_some_iff.mp hu2).1
      simpa using this
    refine W.item i s _ _ (by omega) ⟨hz, hTI, hTO, ⟨h1, p⟩, h2, p2⟩ fun T vals h' tk hv hsz hT hm hk => ?_
    obtain ⟨v1, v2, e1, e2, rfl⟩ := hv
    have e1' : v1 = u := by
      have : its.toArray[i]? = some u := by simpa using hu
      exact Option.some.inj (e1.symm.trans this)
    have e2' : v2 = u2 := by
      have : its2.toArray[i]? = some u2 := by simpa using hu2
      exact Option.some.inj (e2.symm.trans this)
    subst e1' e2'
    have hTw := W.apart i T h' hm
    refine ⟨_, rfl, W.go elts kk tpos i T { s with heap := h', toks := tk } _ _ hm fun h'' st'' hk2 => ?_⟩
    have hT2 : h''.IsTuple T #[v1, v2] := hT.at fun o e => hk2 T o hTw e
    have new : ObjOk X.prog X.w (upd H T (.tup [x, y])) h'' T (.tup [x, y]) := ⟨by show 2 ≤ sizeLine; decide, [v1, v2], .cons ru (.cons ru2 .nil), hT2⟩
    have I1 : Inv X pins σ (upd H T (.tup [x, y])) { s with heap := h'', toks := tk } :=
      I.turnedNew (ch := [z, TI, TO, i1, i2]) (fun c o hb q => hk2 c o (zip_wr hb) (hk c o (zip_wr hb) q)) hf hsz new
    obtain ⟨g1, g2, g3, g4, g5⟩ := st''
    refine ⟨.ref T, _, I1, rfl, ⟨T, x, y, rfl, I.hok.fresh hsz, rfl, fun l hl => by rw [sq_inj I hl hqx]; exact hx, fun l hl => by rw [sq_inj I hl hqy]; exact hy⟩, ⟨g1, g2, g3, g4.1, g5.1⟩, fun c hcm => ?_⟩
    have hlt : c ≠ T := fun e => by
      have q := (hf c hcm).1
      obtain ⟨o, ho, _⟩ : ∃ o, s.heap.get? c = some o ∧ True := by
        rcases zip_cells hcm with q | q | q | q | q
        · subst q; exact ⟨_, hz, trivial⟩
        · subst q; exact ⟨_, hTI, trivial⟩
        · subst q; obtain ⟨_, _, e⟩ := hTO; exact ⟨_, e, trivial⟩
        · subst q; obtain ⟨o, e, _⟩ := h1.obj; exact ⟨o, e, trivial⟩
        · subst q; obtain ⟨o, e, _⟩ := h2.obj; exact ⟨o, e, trivial⟩
      rw [e] at ho
      exact absurd (Nat.lt_of_lt_of_le (Heap.lt_size ho) hsz) (Nat.lt_irrefl _)
    rw [upd_ne hlt]
    exact (hf c hcm).1
  done := by
    intro X hP hw hK hc i pins s σ H E I hf st hg
    subst hP hw hK
    obtain ⟨xs, ys, hqx, hqy, hend⟩ := hg
    obtain ⟨hz, hTI, hTO, h1, h2⟩ := st
    obtain ⟨its, rv, p, _⟩ := sqAt I hqx
    obtain ⟨its2, rv2, p2, _⟩ := sqAt I hqy
    have hh : X.A.in1.handled = none := I.ok.hd hc
    have W := WalksT.zipD2 S (drawsK (P := X.prog) (w := X.w) k1 hh i1 a n1 its.toArray) (drawsK (P := X.prog) (w := X.w) k2 hh i2 b n2 its2.toArray)
    have e : i = min its.toArray.size its2.toArray.size := by
      rw [List.size_toArray, List.size_toArray, ← rv.length, ← rv2.length]
      exact hend.symm
    subst e
    exact W.done s _ _ ⟨hz, hTI, hTO, ⟨h1, p⟩, h2, p2⟩ fun h' tk hk => ⟨rfl, I.turnedL (ch := [z, TI, TO, i1, i2]) (fun c o hb q => hk c o (zip_wr hb) q) hf⟩
  self := fun A i s Q E st h => wpAny_pyIter_zip st.1 h
def iZipK (k1 k2 : SK) (K : PySem.W.Frag) (ta : TA) : TI := fun σ H R => ta σ H fun vs H1 => ∃ a b xs ys, vs = [.ref a, .ref b] ∧ Sq k1 K H1 a xs ∧ Sq k2 K H1 b ys ∧ R (ItzK k1 k2 K a b) H1
theorem pi_zipK {X : Cx} {e e2 : Expr} {ta : TA} {p pos tpos : Pos} {elts : List Expr} {kk : Nat} (k1 k2 : SK) (hg : Gl X "zip") (hm : X.mg "zip" = none) (ha : PA X [e, e2] ta)
    (hs : starEach [e, e2] X.env = (false, eval e X.env) :: starEach [e2] X.env := by rfl) (hpl : (backTo pos (starEach [e2] X.env)).any (·.1) = false := by rfl) :
    PI X (.Tuple elts kk tpos) (.Call (.Name "zip" p) [e, e2] [] pos) (iZipK k1 k2 X.K ta) := by
  refine ⟨fun pins s σ H R I h => ?_⟩
  refine Call_ (ld_blt I hg hm PyProof.Rows.boot_zip (PyProof.Rows.callWith_type1 (thn (ha.run pos pins s σ H _ I h) fun us s1 hq => ?_) hs hpl))
  obtain ⟨vs, H1, I1, r1, a, b, xs, ys, ex, hqx, hqy, q⟩ := hq
  subst ex
  cases r1 with
  | cons r rr =>
    cases rr with
    | cons r' rr =>
      cases rr
      cases r
      cases r'
      obtain ⟨its, rv, p1, la⟩ := sqAt I1 hqx
      obtain ⟨its2, rv2, p2, lb⟩ := sqAt I1 hqy
      refine zip_begins2 (beginsK k1 a its.toArray) (beginsK k2 b its2.toArray) p1 p2 fun h' hz hTI hTO h1 h2 hsz hk => wpAny_pyIter_zip hz ?_
      have I2 : Inv X pins σ H1 { s1 with heap := h' } := I1.kept (t' := s1.toks) hk
      have sep : ZipSep2 (s1.heap.objs.size + 4) (s1.heap.objs.size + 2) (s1.heap.objs.size + 3) s1.heap.objs.size (s1.heap.objs.size + 1) [s1.heap.objs.size, a] [s1.heap.objs.size + 1, b] :=
        zip_sep2 (fun c hc => by rw [List.mem_singleton.mp hc]; exact la) (fun c hc => by rw [List.mem_singleton.mp hc]; exact lb)
      refine ⟨s1.heap.objs.size + 4, [s1.heap.objs.size + 4, s1.heap.objs.size + 2, s1.heap.objs.size + 3, s1.heap.objs.size, s1.heap.objs.size + 1], _, _, H1, rfl, I2,
        turn_zipK k1 k2 sep (Nat.ne_of_lt la) (Nat.ne_of_lt (Nat.lt_succ_of_lt lb)), ⟨hz, hTI, ⟨_, _, hTO⟩, ItAt.zero h1, ItAt.zero h2⟩, fun c hcm => ?_, q⟩
      have hle : s1.heap.objs.size ≤ c := by
        rcases zip_cells hcm with z | z | z | z | z <;> rw [z]
        · exact Nat.le_add_right _ _
        · exact Nat.le_add_right _ _
        · exact Nat.le_add_right _ _
        · exact Nat.le_refl _
        · exact Nat.le_add_right _ _
      exact I1.fpOk hle (I1.hok.fresh hle)
theorem walk_zipK {k1 k2 : SK} {K : PySem.W.Frag} {a b : Addr} {xs ys : List V} {n : Nat} (hn : min xs.length ys.length = n) :
    Walk (ItzK k1 k2 K a b) n (fun H => Sq k1 K H a xs ∧ Sq k2 K H b ys) (YPair (fun i => xs[i]?) (fun i => ys[i]?)) := by
  subst hn
  refine ⟨fun i _ hi q => ?_, fun _ q => ⟨xs, ys, q.1, q.2, rfl⟩, fun i H v H' _ q y => ?_⟩
  · have h1 : i < xs.length := by omega
    have h2 : i < ys.length := by omega
    exact ⟨xs, ys, xs[i], ys[i], q.1, q.2, by simp [h1], by simp [h2]⟩
  · obtain ⟨T, x, z, h1, h2, h3, h4, h5⟩ := y
    exact ⟨T, x, z, h1, h2, h3, h4 xs q.1, h5 ys q.2⟩

/-! ### enumerate of a tuple -/
def IteT (K : PySem.W.Frag) (a : Addr) : It :=
  ⟨fun i H => ∃ (xs : List V) (x : V), SqT K H a xs ∧ xs[i]? = some x, fun i H v H' => ∃ T x, v = .ref T ∧ H T = none ∧ H' = upd H T (.tup [.int (i : Nat), x]) ∧ ∀ xs, SqT K H a xs → xs[i]? = some x, fun i H => ∃ xs : List V, SqT K H a xs ∧ xs.length = i⟩
theorem enum_wr {c e it : Addr} (h : c ∉ [e, it]) : c ≠ e ∧ c ≠ it := by simpa using h
theorem turn_enumT {P : Program} {w : World} {K : PySem.W.Frag} {elts : List Expr} {kk : Nat} {tpos : Pos} {a e it : Addr} (hei : e ≠ it) (hea : e ≠ a) (hai : a ≠ it) :
    Turn P w K (.Tuple elts kk tpos) (IteT K a) [e, it] e (fun i h => (∃ old, IsEnum h e it (0 + ((i : Nat) : Int)) old) ∧ ItAt .t h it a i) where
  mem := List.mem_cons_self
  obj := fun i h st b hb => by
    obtain ⟨⟨old, he⟩, hi⟩ := st
    have e' : b = e ∨ b = it := by simpa using hb
    rcases e' with z | z
    · subst z; exact ⟨_, he, fun v q => nomatch q⟩
    · subst z; exact hi.obj
  keep := fun i h h' st k => let ⟨⟨old, he⟩, hi⟩ := st; ⟨⟨old, k e (by simp) _ he⟩, hi.keep (k it (by simp))⟩
  item := by
    intro X hP hw hK hc i pins s σ H E I hf st hg
    subst hP hw hK
    obtain ⟨he, hit⟩ := st
    obtain ⟨xs, x, hq, hx⟩ := hg
    obtain ⟨its, rv, p, _⟩ := sqAt (k := .t) I hq
    obtain ⟨u, hu, ru⟩ := rv.get hx
    have hh : X.A.in1.handled = none := I.ok.hd hc
    have W := WalksT.enumFrom 0 (drawsK (P := X.prog) (w := X.w) .t hh it a hai its.toArray) e hei (by simp [hei, hea]) (by simp)
    have l1 : i < its.toArray.size := by
      have := (List.getElem?_eq_some_iff.mp hu).1
      simpa using this
    refine W.item i s _ _ l1 ⟨he, hit, p⟩ fun T vals h' tk hv hsz hT hm hk => ?_
    obtain ⟨t, v1, e1, rfl⟩ := hv
    have e1' : v1 = u := by
      have : its.toArray[i]? = some u := by simpa using hu
      exact Option.some.inj (e1.symm.trans this)
    subst e1'
    have hTw := W.apart i T h' hm
    refine ⟨_, rfl, W.go elts kk tpos i T { s with heap := h', toks := tk } _ _ hm fun h'' st'' hk2 => ?_⟩
    have hT2 : h''.IsTuple T #[.int (0 + (i : Int)) t, v1] := hT.at fun o e => hk2 T o hTw e
    have new : ObjOk X.prog X.w (upd H T (.tup [.int (i : Nat), x])) h'' T (.tup [.int (i : Nat), x]) :=
      ⟨by show 2 ≤ sizeLine; decide, [.int (0 + (i : Int)) t, v1], .cons ⟨t, by rw [Int.zero_add]⟩ (.cons ru .nil), hT2⟩
    have I1 : Inv X pins σ (upd H T (.tup [.int (i : Nat), x])) { s with heap := h'', toks := tk } :=
      I.turnedNew (ch := [e, it]) (fun c o hb q => hk2 c o hb (hk c o hb q)) hf hsz new
    refine ⟨.ref T, _, I1, rfl, ⟨T, x, rfl, I.hok.fresh hsz, rfl, fun l hl => by rw [I.tuple_inj hl hq]; exact hx⟩, ⟨st''.1, st''.2.1⟩, fun c hcm => ?_⟩
    have hlt : c ≠ T := fun z => by
      obtain ⟨o, ho⟩ : ∃ o, s.heap.get? c = some o := by
        have e' : c = e ∨ c = it := by simpa using hcm
        rcases e' with q | q
        · subst q; obtain ⟨_, z⟩ := he; exact ⟨_, z⟩
        · subst q; obtain ⟨o, z, _⟩ := hit.obj; exact ⟨o, z⟩
      rw [z] at ho
      exact absurd (Nat.lt_of_lt_of_le (Heap.lt_size ho) hsz) (Nat.lt_irrefl _)
    rw [upd_ne hlt]
    exact (hf c hcm).1
  done := by
    intro X hP hw hK hc i pins s σ H E I hf st hg
    subst hP hw hK
    obtain ⟨he, hit⟩ := st
    obtain ⟨xs, hq, hx⟩ := hg
    obtain ⟨its, rv, p, _⟩ := sqAt (k := .t) I hq
    have hh : X.A.in1.handled = none := I.ok.hd hc
    have W := WalksT.enumFrom 0 (drawsK (P := X.prog) (w := X.w) .t hh it a hai its.toArray) e hei (by simp [hei, hea]) (by simp)
    have e1 : i = its.toArray.size := by
      rw [List.size_toArray, ← rv.length]
      exact hx.symm
    subst e1
    exact W.done s _ _ ⟨he, hit, p⟩ fun h' tk hk => ⟨rfl, I.turnedL (ch := [e, it]) (fun c o hb q => hk c o hb q) hf⟩
  self := fun A i s Q E st h => let ⟨⟨_, he⟩, _⟩ := st; wpAny_pyIter_enum he h
def iEnumT (K : PySem.W.Frag) (ta : TA) : TI := fun σ H R => ta σ H fun vs H1 => ∃ a xs, vs = [.ref a] ∧ SqT K H1 a xs ∧ R (IteT K a) H1
theorem walk_enumT {K : PySem.W.Frag} {a : Addr} {xs : List V} : Walk (IteT K a) xs.length (fun H => SqT K H a xs) (YPair (fun i => some (.int (i : Nat))) (fun i => xs[i]?)) := by
  refine ⟨fun i _ hi q => ⟨xs, xs[i], q, by simp [hi]⟩, fun _ q => ⟨xs, q, rfl⟩, fun i H v H' _ q y => ?_⟩
  obtain ⟨T, x, h1, h2, h3, h4⟩ := y
  exact ⟨T, .int (i : Nat), x, h1, h2, h3, rfl, h4 xs q⟩
end LP

set_option Elab.async false
set_option linter.all false
set_option maxRecDepth 100000
set_option maxHeartbeats 4000000
namespace LP
open PySem PySem.Spec PyProof.Rows L2
open AutoSeq1 (wpAny_loadPart')
theorem enum_new1 {v : Value} {o : Obj} {S : Heap → Prop} (B : Begins v o S) :
    Meets (Builtin.«enumerate.__new__» ⟨[.type "enumerate", v], []⟩) (fun _ R s => S s.heap ∧
      R (.ok (.ret (.ref (s.heap.push o).objs.size)))
        { s with heap := (s.heap.push o).push { cls := .type "enumerate", data := .fields #[.none, .bool false, .ref s.heap.objs.size, rawInt 0, .none, .none] } }) :=
  .of_wp fun P w A R s h => by
    obtain ⟨hp, g, d, tk, os⟩ := s
    obtain ⟨h1, h⟩ := h
    have hsub := sub_enumerate
    have q1 : ∀ {A' : Around} {E : Value → Shared → Prop} {Q : Value → Shared → Prop}, Q (.ref hp.objs.size) ⟨hp.push o, g, d, tk, os⟩ →
        wpAny (model P w) A' (pyIter v) Q E ⟨hp, g, d, tk, os⟩ := fun q => B.iter P w _ _ ⟨hp, g, d, tk, os⟩ _ h1 q
    wp_walk using q1
    refine wpAny_stack_any fun st => wpAny_pure ?_
    split
    · rename_i c _ _ _ _ _
      cases (c == Value.type "enumerate")
      all_goals (wp_walk using q1; exact ⟨_, rfl, h⟩)
    · wp_walk using q1
      exact ⟨_, rfl, h⟩
theorem enum_begins1 {P : Program} {w : World} {A : Around} {E : Value → Shared → Prop} {s : Shared} {v : Value} {o : Obj} {S : Heap → Prop} {Q : Value → Shared → Prop} (B : Begins v o S) (h1 : S s.heap)
    (h : ∀ h', IsEnum h' (s.heap.objs.size + 1) s.heap.objs.size 0 .none → h'.get? s.heap.objs.size = some o → (∀ b o', s.heap.get? b = some o' → h'.get? b = some o') → Q (.ref (s.heap.objs.size + 1)) { s with heap := h' }) :
    wpAny (model P w) A (call (.type "enumerate") [v]) Q E s := by
  refine callType_new F.called_enumerate (by decide) (F.typeCall_enumerate_1 _) (F.newCall_enumerate_1 _) (fun obj => F.args_object_init_2 obj _) F.entry_enumerate_new (enum_new1 B) ⟨h1, ?_⟩
  have hz : (s.heap.push o).objs.size = s.heap.objs.size + 1 := Heap.size_push ..
  show _ ∧ _
  rw [hz]
  have he := Heap.get?_push_size (s.heap.push o) (o := { cls := .type "enumerate", data := .fields #[.none, .bool false, .ref s.heap.objs.size, rawInt 0, .none, .none] }) rfl
  rw [hz] at he
  exact ⟨⟨_, he, rfl⟩, h _ he (Heap.get?_push_of_some _ (Heap.get?_push_size _ B.free)) fun b o' x => Heap.get?_push_of_some _ (Heap.get?_push_of_some _ x)⟩
theorem pi_enumT {X : Cx} {e : Expr} {ta : TA} {p pos tpos : Pos} {elts : List Expr} {kk : Nat} (hg : Gl X "enumerate") (hm : X.mg "enumerate" = none) (ha : PA X [e] ta) (hs : starEach [e] X.env = [(false, eval e X.env)] := by rfl) :
    PI X (.Tuple elts kk tpos) (.Call (.Name "enumerate" p) [e] [] pos) (iEnumT X.K ta) := by
  refine ⟨fun pins s σ H R I h => ?_⟩
  refine Call_ (ld_blt I hg hm boot_enumerate (PyProof.Rows.callWith_type1 (thn (ha.run pos pins s σ H _ I h) fun us s1 hq => ?_) hs rfl))
  obtain ⟨vs, H1, I1, r1, a, xs, ex, hqx, q⟩ := hq
  subst ex
  cases r1 with
  | cons r rr =>
    cases rr
    cases r
    obtain ⟨its, rv, p1, la⟩ := sqAt (k := .t) I1 hqx
    refine enum_begins1 (beginsK .t a its.toArray) p1 fun h' he hit hk => wpAny_pyIter_enum he ?_
    have I2 : Inv X pins σ H1 { s1 with heap := h' } := I1.kept (t' := s1.toks) hk
    refine ⟨s1.heap.objs.size + 1, [s1.heap.objs.size + 1, s1.heap.objs.size], _, _, H1, rfl, I2, turn_enumT (Nat.succ_ne_self _) (Nat.ne_of_gt (Nat.lt_succ_of_lt la)) (Nat.ne_of_lt la), ⟨⟨.none, he⟩, ItAt.zero hit⟩, fun c hcm => ?_, q⟩
    have e' : c = s1.heap.objs.size + 1 ∨ c = s1.heap.objs.size := by simpa using hcm
    have hle : s1.heap.objs.size ≤ c := by
      rcases e' with z | z <;> rw [z]
      · exact Nat.le_add_right _ _
      · exact Nat.le_refl _
    exact I1.fpOk hle (I1.hok.fresh hle)
end LP

set_option Elab.async false
set_option linter.all false
set_option maxRecDepth 100000
set_option maxHeartbeats 4000000
namespace LP
open PySem PySem.Spec PyProof.Rows L2

/-! ### t[::-1], t a tuple -/
theorem filterMap_same {B C : Type} {f g : B → Option C} : ∀ {l : List B}, (∀ x ∈ l, f x = g x) → l.filterMap f = l.filterMap g
  | [], _ => rfl
  | x :: l, h => by
    rw [List.filterMap_cons, List.filterMap_cons, h x List.mem_cons_self, filterMap_same fun y hy => h y (List.mem_cons_of_mem _ hy)]
theorem rev_picked (xs : Array Value) : ((List.range xs.size).filterMap fun (k : Nat) => xs[(((xs.size : Int) - 1) + (k : Int) * (-1)).toNat]?).toArray = xs.toList.reverse.toArray := by
  have e : ∀ k ∈ List.range xs.size, xs[(((xs.size : Int) - 1) + (k : Int) * (-1)).toNat]? = xs[xs.size - 1 - k]? := fun k hk => by
    have := List.mem_range.mp hk
    congr 1
    omega
  rw [filterMap_same e]
  have h := PySem.W.krv_all xs
  rw [← h, ← List.filterMap_reverse, ← PySem.W.krv_range, List.filterMap_map]
  rfl
section
variable {P : Program} {w : World} {A : Around} {E : Value → Shared → Prop} {s : Shared}
theorem applied_rev {sl : Addr} {t : Tok} {n : Nat} {Q : Int × Int × Nat → Shared → Prop} (hs : s.heap.IsSliceOf sl .none .none (.int (-1) t)) (h : Q ((n : Int) - 1, -1, n) s) :
    wpAny (model P w) A (Builtin.Slice.sliceApplied (.ref sl) (pure (n : Int))) Q E s := by
  obtain ⟨os, hos, _, hds⟩ := id hs
  unfold Builtin.Slice.sliceApplied Builtin.Slice.sliceFields
  refine wpAny_bind (wpAny_bind (wpAny_field hos hds (x := .none) rfl (wpAny_bind (wpAny_field hos hds (x := .none) rfl (wpAny_bind (wpAny_field hos hds (x := .int (-1) t) rfl (wpAny_pure ?_)))))))
  refine wpAny_bind (slicePart_int ?_)
  show wpAny _ _ (if ((-1 : Int) == 0) = true then _ else _) _ _ s
  rw [if_neg (by decide)]
  refine wpAny_bind (slicePart_none (wpAny_bind (slicePart_none (wpAny_bind (wpAny_pure ?_)))))
  have e : Builtin.Slice.slicePlaces ((n : Int) - 1) (-1) (-1) = n := by
    unfold Builtin.Slice.slicePlaces
    rw [if_neg (by decide)]
    by_cases h0 : (n : Int) - 1 > -1
    · rw [if_pos h0, show (-(-1) : Int) = 1 by decide, Int.ediv_one]
      omega
    · rw [if_neg h0]
      omega
  show wpAny _ _ (pure ((n : Int) - 1, (-1 : Int), Builtin.Slice.slicePlaces ((n : Int) - 1) (-1) (-1))) _ _ s
  rw [e]
  exact wpAny_pure h
theorem item_tuple_rev {t sl : Addr} {items : Array Value} {tk : Tok} {Q : Value → Shared → Prop} (ht : IsTup s.heap t items) (hs : s.heap.IsSliceOf sl .none .none (.int (-1) tk))
    (h : Q (.ref s.heap.objs.size) { s with heap := s.heap.push { cls := .type "tuple", data := .seq items.toList.reverse.toArray } }) (hsz : items.size ≤ sizeLine) : wpAny (model P w) A (getItem (.ref t) (.ref sl)) Q E s := by
  obtain ⟨os, hos, hcs, hds⟩ := id hs
  have hTs : s.TypeIs (.ref sl) "slice" := ⟨os, hos, hcs⟩
  unfold getItem
  try with_reducible refine wpAny_holding ?_
  first | refine wpAny_bind (wpAny_pure ?_) | skip
  refine wpAny_bind (wpAny_sequenceKey ht.typeIs (by decide) ?_)
  refine wpAny_bind (wpAny_callSpecial?_slot (name := Str.ofString "__getitem__") ht.typeIs PyProof.Rows.slot_tuple_getitem (wpAny_call_entry PyProof.Rows.slot_tuple_getitem ht.typeIs entry_tuple_getitem ?_ (args_tuple_getitem _ _)))
  show wpAny _ _ (Builtin.Tuple.tupleItemsOf (.ref t) >>= _) _ _ s
  refine wpAny_bind (tupleItemsOf_ ht (wpAny_bind (wpAny_typeOf hTs ?_)))
  rw [if_pos (by decide)]
  refine wpAny_bind (applied_rev hs ?_)
  show wpAny _ _ (if (((items.size : Int) - 1) == 0 && (-1 : Int) == 1 && items.size == items.size) = true then _ else _) _ _ s
  rw [if_neg (by rw [show ((-1 : Int) == 1) = false by decide, Bool.and_false, Bool.false_and]; exact Bool.false_ne_true), rev_picked]
  have hz : sizeOk (.seq items.toList.reverse.toArray) := by
    show items.toList.reverse.toArray.size ≤ sizeLine
    rw [List.size_toArray, List.length_reverse, Array.length_toList]
    exact hsz
  first
    | exact wpAny_bind (m := Builtin.Tuple.tupleExact _) (wpAny_newObj_type (wpAny_pure ⟨_, rfl, wpAny_pure h⟩) hz)
    | exact wpAny_bind (m := Builtin.Tuple.tupleExact _) (wpAny_newObj_type (wpAny_bind (wpAny_pure (wpAny_pure ⟨_, rfl, wpAny_pure h⟩))) hz)
end
section
variable {X : Cx}
def tRevT (K : PySem.W.Frag) (te : TE) : TE := fun σ H Q => te σ H fun x H1 => ∃ a xs, x = .ref a ∧ SqT K H1 a xs ∧ ∀ p, H1 p = none → Q (.ref p) (upd H1 p (.tup xs.reverse))
theorem pe_revT {e : Expr} {te : TE} {k : Nat} {p1 p2 p3 pos : Pos} (he : PE X e te) : PE X (.Subscript e (.Slice none none (some (.UnaryOp .USub (.Constant (.int 1) k p1) p2)) p3) pos) (tRevT X.K te) := by
  refine ⟨fun pins s σ H Q I h => ?_⟩
  refine Subscript_ (thn (he.run pins s σ H _ I h) fun v s1 hq => ?_)
  obtain ⟨x, H1, I1, r1, a, xs, ex, hx, q⟩ := hq
  subst ex
  cases r1
  have hst : PO X (some (.UnaryOp .USub (.Constant (.int 1) k p1) p2)) (tPart (tUn (rU fun i => .int (-i)) (tC (.int 1)))) := po_some (pe_un un_neg pe_int)
  refine wpAny_Slice (thn (po_none.run pins s1 σ H1 (fun o H2 => o = none ∧ H2 = H1) I1 ⟨rfl, rfl⟩) fun vl s2 g2 => ?_)
  obtain ⟨l, H2, I2, pl, el, e2⟩ := g2
  subst el e2
  cases pl
  refine thn (po_none.run pins s2 σ H2 (fun o H3 => o = none ∧ H3 = H2) I2 ⟨rfl, rfl⟩) fun vu s3 g3 => ?_
  obtain ⟨u, H3, I3, pu, eu, e3⟩ := g3
  subst eu e3
  cases pu
  refine thn (hst.run pins s3 σ H3 (fun o H4 => o = some (-1) ∧ H4 = H3) I3 ⟨1, rfl, -1, rfl, rfl, rfl⟩) fun vs s4 g4 => ?_
  obtain ⟨o, H4, I4, ps, eo, e4⟩ := g4
  subst eo e4
  cases ps with
  | int _ tk =>
    have I5 : Inv X pins σ H4 { s4 with heap := s4.heap.push { cls := .type "slice", data := .fields #[.none, .none, .int (-1) tk] } } := I4.kept (t' := s4.toks) fun b ob q => Heap.get?_push_of_some _ q
    obtain ⟨its, r, ht, hz⟩ := I5.tuple hx
    have hlen := r.length
    refine tail_any (ops := [.ref a, .ref s4.heap.objs.size]) ht.typeIs PyProof.Rows.slot_tuple_getitem.lookup ?_ (by with_unfolding_all rfl)
    refine item_tuple_rev (tk := tk) ht (Heap.IsSliceOf.new _ .none .none (.int (-1) tk)) ?_ (by rw [List.size_toArray]; omega)
    refine ⟨.ref _, _, I5.laid (t' := s4.toks) (o := .tup xs.reverse) (fun b ob q => Heap.get?_push_of_some _ q) (Nat.le_refl _) ?_, rfl, q _ (I5.hok.fresh (Nat.le_refl _))⟩
    exact ⟨by rw [List.length_reverse]; exact hz, _, r.reverse, IsTup.new _ _⟩

/-! ### before, *rest = a tuple -/
def gStar (K : PySem.W.Frag) (t : TGs) : TG := fun v σ H Q => ∃ a x r, v = .ref a ∧ SqT K H a (x :: r) ∧ r.length ≤ 1000 ∧ ∀ D, H D = none → t [x, .ref D] σ (upd H D (.lst r)) Q
theorem pg_star {x y : Str} {px py ps pos : Pos} {k : Nat} {t : TGs} (hc : X.calm = true) (h : PGs X [.Name x px, .Name y py] t) : PG X (.Tuple [.Name x px, .Starred (.Name y py) ps] k pos) (gStar X.K t) := by
  refine ⟨fun pins s σ H v u Q I r hw => ?_⟩
  obtain ⟨a, z, zs, e1, hq, hl, hw⟩ := hw
  subst e1
  cases r
  obtain ⟨its, rv, ht, hz⟩ := I.tuple hq
  obtain ⟨u0, us, rfl, r0, rs⟩ : ∃ u0 us, its = u0 :: us ∧ RelV z u0 ∧ Vals zs us := by
    cases rv with
    | cons p q => exact ⟨_, _, rfl, p, q⟩
  have hus : us.length ≤ 1000 := by rw [← rs.length]; exact hl
  have hne : a ≠ s.heap.objs.size := by
    obtain ⟨o, ho, _⟩ := id ht
    exact Nat.ne_of_lt (Heap.lt_size ho)
  rw [assign_Tuple]
  refine wpAny_bind (wpAny_standAt ?_)
  show wpAny _ _ (unpack (.ref a) [(false, assign (.Name x px) X.env), (true, assign (.Name y py) X.env)]) _ _ s
  unfold unpack
  refine wpAny_bind (wpAny_holding ?_)
  show wpAny _ _ (unpackItems (.ref a) 2 (some 1)) _ _ s
  unfold unpackItems
  refine wpAny_bind ?_
  unfold notIterableAtAll
  refine wpAny_bind (wpAny_specialOf ht.typeIs slot_tuple_iter.lookup (wpAny_pure ?_))
  simp only [Bool.false_eq_true, if_false]
  refine wpAny_bind (wpAny_holding (iter_tuple ht ?_))
  refine wpAny_bind (wpAny_holding (draw_tuple hne 1 0 _ _ ⟨_, Heap.get?_push_size _ rfl, rfl, rfl⟩ (ht.push _) (by simp) fun h1 hit hs1 => ?_))
  have ht1 : IsTup h1 a (u0 :: us).toArray := (ht.push _).extBut hs1.extBut hne
  rw [Nat.zero_add] at hit
  obtain ⟨oi, hoi, _⟩ := id hit
  obtain ⟨ol, hol, _⟩ := id ht1
  show wpAny _ _ (if [u0].length < 1 then _ else _) _ _ _
  rw [if_neg (show ¬ [u0].length < 1 from Nat.lt_irrefl 1)]
  have hh : X.A.in1.handled = none := I.ok.hd hc
  refine wpAny_bind (wpAny_holding (PySem.W.kun_collect (s := { s with heap := h1 }) (T := "tuple_iterator") (.inr (.inr (.inr rfl))) (Walks.tuple (A := X.A.in1) hh s.heap.objs.size a hne (u0 :: us).toArray)
    (fun j u st => st.1.typeIs) (k := 1) (by simp) ⟨hit, ht1⟩ (Heap.lt_size hoi) (Heap.lt_size hol) (fun h2 tk hk => ?_) (by rw [List.size_toArray, List.length_cons, sizeLine_eq]; omega)))
  show wpAny _ _ (if us.length < 0 then _ else _) _ _ _
  rw [if_neg (Nat.not_lt_zero _)]
  have ek : ∀ b o, s.heap.get? b = some o → h2.get? b = some o := fun b o e =>
    hk b o (Nat.ne_of_lt (Heap.lt_size e)) (hs1.extBut b o (Nat.ne_of_lt (Heap.lt_size e)) (Heap.get?_push_of_some _ e))
  have I2 : Inv X pins σ H { s with heap := h2, toks := tk } := I.kept ek
  show wpAny _ _ (newList (us.take (us.length - 0)) >>= fun d => pure ([u0] ++ [d] ++ us.drop (us.length - 0))) _ _ _
  rw [Nat.sub_zero, List.take_length, List.drop_length]
  refine wpAny_bind (wpAny_newObj_type (wpAny_pure ?_) (by show us.toArray.size ≤ sizeLine; rw [List.size_toArray, sizeLine_eq]; omega))
  have I3 : Inv X pins σ (upd H h2.objs.size (.lst zs)) { s with heap := h2.push { cls := .type "list", data := .seq us.toArray }, toks := tk } :=
    I2.laid (t' := tk) (fun b o e => Heap.get?_push_of_some _ e) (Nat.le_refl _) ⟨Nat.le_trans hl (by rw [sizeLine_eq]; decide), us, 0, rs, Heap.get?_push_size _ rfl⟩
  exact h.run pins _ σ _ [z, .ref h2.objs.size] [u0, .ref h2.objs.size] Q I3 (.cons r0 (.cons rfl .nil)) (hw _ (I2.hok.fresh (Nat.le_refl _)))
end
end LP

set_option Elab.async false
set_option linter.all false
set_option maxRecDepth 100000
set_option maxHeartbeats 4000000
namespace LP
open PySem PySem.Spec PyProof.Rows L2

/-! ### repr of a tuple of texts, where nothing is being shown -/
section
variable {X : Cx}
def rReprT (K : PySem.W.Frag) : List V → Hp → VK → Prop := fun xs H Q => ∃ (a : Addr) (l : List Str), xs = [.ref a] ∧ SqT K H a (l.map V.str) ∧ (∀ y ∈ l, (reprText y).length ≤ sizeLine) ∧ (tupleText (l.map reprText)).length ≤ sizeLine ∧ Q (.str (tupleText (l.map reprText))) H
theorem call_reprT {k : Nat} (hg : X.A.guards = some []) (hr : Room k X.A) : CallR X (.builtin "repr") (rReprT X.K) := by
  intro pins s σ H xs us Q I r h
  obtain ⟨a, l, rfl, hq, h1, h2, q⟩ := h
  obtain ⟨u, rfl, ru⟩ := vals1 r
  cases ru
  obtain ⟨its, rv, ⟨o, ho, hcl, n, hd⟩, _⟩ := I.tuple hq
  have hu := hr.units
  exact call_repr_slot (by omega) ⟨o, ho, hcl⟩ F.slot_tuple_repr (call_tuple_repr ⟨o, ho, hcl⟩ (show X.A.in1.guards = some [] from hg) (fun c hc => nomatch hc) ho hd (by simpa using repr_all rv h1)
    (fun u tk => ⟨_, u, rfl, .str _, H, I.tok _, ⟨u, rfl⟩, q⟩) h2)

/-! ### name = {..} on one line, the name a local -/
theorem ps_setDc {i : Nat} {y : Str} {py : Pos} {kx vx tg iter : Expr} {ifs : List Expr} {scope : Scope} {own : List (Str × Nat)} {pos spos : Pos} {wi : TI} {g : TG} {tt : TT} {tk tv : TE} (hc : X.calm = true) (hN : X.N.Nodup) (hy : X.N[i]? = some y) (hyl : X.env.scope.names.lookup y = some .local)
    (hsw : swapsWith (.DictComp kx vx [⟨tg, iter, ifs, 0⟩] scope pos) (some (.Name y py)) spos.line X.env = pure true) (hi : PI X tg iter wi) (ok : BlkOk X.N X.env.scope scope own)
    (hg : ∀ (s : Shared) (H : Hp) (C : Addr) (cl : List (Str × Addr)) (fp : List Addr), PG (X.blk s H scope (compEnvC scope cl C X.env) fp) tg g)
    (ht : ∀ (s : Shared) (H : Hp) (C : Addr) (cl : List (Str × Addr)) (fp : List Addr), PTs (X.blk s H scope (compEnvC scope cl C X.env) fp) ifs tt)
    (hk : ∀ (s : Shared) (H : Hp) (C : Addr) (cl : List (Str × Addr)) (fp : List Addr), PE (X.blk s H scope (compEnvC scope cl C X.env) fp) kx tk)
    (he : ∀ (s : Shared) (H : Hp) (C : Addr) (cl : List (Str × Addr)) (fp : List Addr), PE (X.blk s H scope (compEnvC scope cl C X.env) fp) vx tv) (hs : ∀ x, foldedSetIterable iter X.env x = pure x := by intro _; rfl) :
    PS X (.Assign [.Name y py] (.DictComp kx vx [⟨tg, iter, ifs, 0⟩] scope pos) spos) (tAsg (tDc wi g tt tk tv (own.map (·.2))) (gName i)) := by
  refine ⟨fun pins s σ H D I h => ?_⟩
  rw [exec_Assign_Name_used _ _ _ _ hsw]
  refine wpAny_bind (wpAny_standAt (wpAny_bind ?_))
  show wpAny _ X.A (do
    let _ ← comprehension (.DictComp kx vx [⟨tg, iter, ifs, 0⟩] scope pos) scope X.env (firstIterPos [⟨tg, iter, ifs, 0⟩] pos) newDict false (eval iter X.env) (some (assign (.Name y py) X.env))) _ _ s
  have h : tDc wi g tt tk tv (own.map (·.2)) σ H (fun x H1 => gName i x σ H1 D.nx) := h
  refine wpAny_bind (thn (dc_core (Qf := fun _ s' => SP X pins D .next s') hc hN I hi ok hg ht hk he hs h fun L C s' m H' I' q hn f => ?_) fun _ s' hq => wpAny_pure (wpAny_pure hq))
  show wpAny _ _ (assign (.Name y py) X.env (.ref L)) _ _ _
  refine wpAny_assign_Name (store_ok2 (v := V.ref L) I' hN hy (.inl hyl) rfl (fun s2 I2 w2 => ?_) (.inr hyl))
  obtain ⟨a, sb, ha⟩ := w2
  obtain ⟨f0, f1, f2, f3, f4, f5⟩ := f
  have haC : C ≠ a := by
    rcases ha with z | z
    · rw [z]; exact f1
    · exact fun e => f4 y a z e.symm
  exact ⟨m, hn.sameBut sb haC, fun h3 sb3 => ⟨_, H', I2.turned (t' := s2.toks) (fun b o hb e => (sb3.2 b hb).trans e) f0 f1 f3 f4 f5, q⟩⟩
theorem swD_true {kx vx : Expr} {gs : List Comprehension} {scope : Scope} {pos py : Pos} {y : Str} {l : Nat} {env : Env} (hk : env.scope.kind = .function) (hy : env.scope.names.lookup y = some .local) (hl : (py.line == pos.line) = true)
    (ha : (scope.names.any fun q => q.1 == y && (q.2 == .local || q.2 == .cell)) = false) : swapsWith (.DictComp kx vx gs scope pos) (some (.Name y py)) l env = pure true := by
  have ky : env.kindOf y = some .local := hy
  have hb : env.blockKind = .function := by unfold Env.blockKind; rw [hk]; rfl
  unfold swapsWith
  simp only [hb, ky, ha, Expr.pos, hl]
  rfl

/-! ### sorted(t), t a tuple of texts -/
theorem strsAre_vals : ∀ {xs : List Str} {us : List Value}, Vals (xs.map V.str) us → StrsAre us xs := fun r => r.strs
def rSortedTS (K : PySem.W.Frag) : List V → Hp → VK → Prop := fun vs H Q => ∃ (a : Addr) (xs : List Str), vs = [V.ref a] ∧ SqT K H a (xs.map V.str) ∧ xs.length < 64 ∧
  ∀ (ys : List Str) (p : Addr), ys.Perm xs → sortedS ys = true → H p = none → Q (.ref p) (upd H p (.lst (ys.map V.str)))
theorem cr_sortedTS : CallR X (.builtin "sorted") (rSortedTS X.K) := by
  intro pins s σ H vs us Q I r h
  obtain ⟨a, xs, rfl, hs, h64, q⟩ := h
  obtain ⟨its, rv, ⟨o, ho, hcl, n, hd⟩, _⟩ := I.tuple hs
  rw [Vals.ref1 r]
  have hl := rv.length
  rw [List.length_map] at hl
  refine Calls.call_function_entry kind_sorted plain_sorted entry_sorted (args_sorted1 _) ?_
  unfold Builtin.«sorted»
  refine wpAny_bind (m := checkCount "sorted" 1 1 _) (wpAny_pure ?_)
  refine wpAny_bind (wpAny_collect_seq a (.inr rfl) ho hcl hd (fun h1 hk1 => ?_) (by rw [List.size_toArray, sizeLine_eq]; omega))
  refine wpAny_bind (wpAny_newList ?_)
  show wpAny _ _ _ _ _ { s with heap := h1.push (seqObj "list" its.toArray 0) }
  have hoL : (h1.push (seqObj "list" its.toArray 0)).get? h1.objs.size = some (seqObj "list" its.toArray 0) := Heap.get?_push_size _ rfl
  refine wpAny_bind (wpAny_holding (wpAny_call_entry slot_list_sort ⟨_, hoL, rfl⟩ entry_list_sort (list_sort_treeK strKind_oneLt hoL rv.strs.keysOf (fun v1 v2 rest e => keyKind_strs (by rw [← e]; exact rv.strs)) (by omega) fun st' hp hso => ⟨_, rfl, ?_⟩) (args_list_sort _)))
  refine wpAny_pure ⟨_, rfl, ?_⟩
  obtain ⟨ys, e1, e2, e3⟩ := sorted_out_str rv.strs hp hso
  have I1 : Inv X pins σ H { s with heap := h1 } := I.kept (t' := s.toks) hk1
  obtain ⟨ep, he⟩ := sortedHeap_at (vs := its) (out := (arrOf st').map (·.2)) hoL
  have hlen : (ys.map V.str).length ≤ sizeLine := by rw [List.length_map, e2.length_eq]; exact small64 h64
  have kp : ∀ b u, h1.get? b = some u → (sortedHeap (h1.push (seqObj "list" its.toArray 0)) h1.objs.size its ((arrOf st').map (·.2))).get? b = some u := fun b u e => by
    rw [sortedHeap_old (Nat.ne_of_lt (Heap.lt_size e)) (by rw [Heap.size_push]; exact Nat.lt_succ_of_lt (Heap.lt_size e))]
    exact Heap.get?_push_of_some _ e
  exact ⟨.ref _, _, I1.laid (o := .lst (ys.map V.str)) (t' := s.toks) kp (Nat.le_refl _) ⟨hlen, _, ep, vals_of_strs e1, he⟩, rfl, q ys _ e2 e3 (I1.hok.fresh (Nat.le_refl _))⟩

/-! ### sorted(l), l a list of pairs of texts: the same pairs in some order -/
def rSortedTT (K : PySem.W.Frag) : List V → Hp → VK → Prop := fun vs H Q => ∃ (a : Addr) (xs : List V), vs = [V.ref a] ∧ SqL K H a xs ∧ (∀ x ∈ xs, ∃ t y z, x = V.ref t ∧ SqT K H t [V.str y, V.str z]) ∧
  ∀ ys p, H p = none → Q (.ref p) (upd H p (.lst ys))
theorem tups_of {H : Hp} {h : Heap} (hI : ∀ t y z, SqT X.K H t [V.str y, V.str z] → ∃ o n u1 u2, h.get? t = some o ∧ o.cls = .type "tuple" ∧ o.data = .seq #[Value.str y u1, Value.str z u2] n) :
    ∀ {xs : List V} {us : List Value}, Vals xs us → (∀ x ∈ xs, ∃ t y z, x = V.ref t ∧ SqT X.K H t [V.str y, V.str z]) →
      (∃ fs, PyProof.Rows.TupsOf h (fun _ => true) us fs) ∧ (∀ v, v ∈ us → ∃ l, G.tupKeyC h (fun _ => true) v = some l) ∧ ∀ v ∈ us, ∃ a, v = .ref a
  | [], _, r, _ => by
    cases r
    exact ⟨⟨[], .nil⟩, (fun v hv => (nomatch hv)), (fun v hv => (nomatch hv))⟩
  | x :: xs, _, r, hx => by
    cases r with
    | cons r1 r2 =>
      obtain ⟨⟨fs, h1⟩, h2, h3⟩ := tups_of hI r2 fun y hy => hx y (List.mem_cons_of_mem _ hy)
      obtain ⟨t, y, z, rfl, hq⟩ := hx x List.mem_cons_self
      cases r1
      obtain ⟨o, n, u1, u2, ho, hc, hd⟩ := hI t y z hq
      refine ⟨⟨_, .cons ⟨t, o, _, n, rfl, ho, hc, hd, rfl, (fun q => (nomatch q)), (fun _ => ⟨y, u1, rfl⟩)⟩ h1⟩, fun v hv => ?_, fun v hv => ?_⟩
      · rcases List.mem_cons.mp hv with rfl | hv
        · refine ⟨[Sum.inr y.cps.toList, Sum.inr z.cps.toList], ?_⟩
          unfold G.tupKeyC
          have e1 : G.isTupObj h (.ref t) = true := by
            unfold G.isTupObj
            simp only [ho, hc]
            rfl
          rw [if_pos e1]
          unfold PyProof.Rows.tupKey
          simp only [ho, hd]
          rfl
        · exact h2 v hv
      · rcases List.mem_cons.mp hv with rfl | hv
        · exact ⟨t, rfl⟩
        · exact h3 v hv
theorem vals_refs : ∀ {us : List Value}, (∀ v ∈ us, ∃ a, v = Value.ref a) → ∃ ys : List V, Vals ys us
  | [], _ => ⟨[], .nil⟩
  | u :: us, h => by
    obtain ⟨ys, r⟩ := vals_refs fun v hv => h v (List.mem_cons_of_mem _ hv)
    obtain ⟨a, e⟩ := h u List.mem_cons_self
    exact ⟨V.ref a :: ys, .cons e r⟩
theorem cr_sortedTT : CallR X (.builtin "sorted") (rSortedTT X.K) := by
  intro pins s σ H xs us Q I r h
  obtain ⟨a, xs, rfl, hs, hx, q⟩ := h
  obtain ⟨its, rv, hl, hz⟩ := I.list hs
  rw [Vals.ref1 r]
  obtain ⟨⟨fs, t1⟩, t2, t3⟩ := tups_of (h := s.heap) (fun t y z hq => by
    obtain ⟨its2, r2, ⟨o, ho, hc, n, hd⟩, _⟩ := I.tuple hq
    obtain ⟨u1, u2, rfl, ⟨k1, rfl⟩, ⟨k2, rfl⟩⟩ := vals2 r2
    exact ⟨o, n, k1, k2, ho, hc, hd⟩) rv hx
  refine G.sorted_tups hl.isList t1 t2 (by rw [← rv.length]; exact hz) fun st' hp _ _ => ?_
  obtain ⟨ep, he'⟩ := PyProof.Rows.sortedAll_at s.heap its ((arrOf st').map (·.2))
  have hp2 : (arrOf st').toList.Perm (its.zip its) := by rw [← pairsOf_toList]; exact Array.perm_iff_toList_perm.mp hp
  have hm : ∀ v ∈ ((arrOf st').map (·.2)).toList, ∃ a, v = Value.ref a := fun v hv => by
    rw [Array.toList_map] at hv
    obtain ⟨p, hpm, rfl⟩ := List.mem_map.mp hv
    have := (List.of_mem_zip (hp2.mem_iff.mp hpm)).2
    exact t3 _ this
  obtain ⟨ys, ry⟩ := vals_refs hm
  have hlen : ys.length ≤ sizeLine := by
    rw [ry.length, Array.toList_map, List.length_map, hp2.length_eq, List.length_zip, Nat.min_self, ← rv.length]
    exact hz
  exact ⟨.ref _, upd H (s.heap.objs.size + 1) (.lst ys), I.laid (t' := s.toks) (fun _ _ => PyProof.Rows.sortedAll_old) (Nat.le_succ _) ⟨hlen, _, ep, ry, he'⟩, rfl, q ys _ (I.hok.fresh (Nat.le_succ _))⟩

/-! ### rows of texts compared -/
def OkS (x : Str) : Prop := PySem.PyData.strOk x = true
theorem dp_all {K : PySem.W.Frag} {H : Hp} : ∀ l : List Str, DpAll K H (l.map V.str) (l.map PyData.str)
  | [] => .nil
  | x :: l => .cons (.str x) (dp_all l)
theorem dp_row {K : PySem.W.Frag} {H : Hp} {a : Addr} {l : List Str} (h : SqT K H a (l.map V.str)) : Dp K H (.ref a) (.tuple (l.map PyData.str)) := .tup h (dp_all l)
theorem dp_lst {K : PySem.W.Frag} {H : Hp} {a : Addr} {l : List Str} (h : SqL K H a (l.map V.str)) : Dp K H (.ref a) (.list (l.map PyData.str)) := .lst h (dp_all l)
theorem lay_strs : ∀ l : List Str, (∀ x ∈ l, OkS x) → PyData.canLayAll0 (l.map PyData.str) = true
  | [], _ => rfl
  | x :: l, h => by
    have h1 : PySem.PyData.strOk x = true := h x List.mem_cons_self
    have h2 := lay_strs l fun y hy => h y (List.mem_cons_of_mem _ hy)
    show (PyData.canLay0 (.str x) && PyData.canLayAll0 (l.map PyData.str)) = true
    rw [h2, Bool.and_true]
    simpa [PyData.canLay0] using h1
theorem depth_strs : ∀ l : List Str, PyData.depthAll (l.map PyData.str) ≤ 1
  | [] => by simp [PyData.depthAll]
  | x :: l => by
    have := depth_strs l
    simp only [List.map_cons, PyData.depthAll, PyData.depth]
    omega
theorem shaped_row {l : List Str} (h : ∀ x ∈ l, OkS x) : SeqAt.shaped (.tuple (l.map PyData.str)) = true := by
  have h1 := lay_strs l h
  have h2 := depth_strs l
  unfold SeqAt.shaped
  rw [Bool.and_eq_true]
  refine ⟨by simpa [PyData.canLay0] using h1, ?_⟩
  rw [decide_eq_true_iff]
  simp only [PyData.depth]
  omega
theorem shaped_lst {l : List Str} (h : ∀ x ∈ l, OkS x) : SeqAt.shaped (.list (l.map PyData.str)) = true := by
  have h1 := lay_strs l h
  have h2 := depth_strs l
  unfold SeqAt.shaped
  rw [Bool.and_eq_true]
  refine ⟨by simpa [PyData.canLay0] using h1, ?_⟩
  rw [decide_eq_true_iff]
  simp only [PyData.depth]
  omega
theorem eqv_strs : ∀ l m : List Str, PyData.eqvAll (l.map PyData.str) (m.map PyData.str) = decide (l = m)
  | [], [] => by simp [PyData.eqvAll]
  | [], _ :: _ => by simp [PyData.eqvAll]
  | _ :: _, [] => by simp [PyData.eqvAll]
  | x :: l, y :: m => by
    have ih := eqv_strs l m
    simp only [List.map_cons, PyData.eqvAll, PyData.eqv, ih]
    by_cases e : x = y
    · subst e
      simp
    · have : (x == y) = false := beq_eq_false_iff_ne.mpr e
      simp [this, e]
def rNeT (K : PySem.W.Frag) : R2 := fun x y H Q => ∃ (a b : Addr) (l m : List Str), x = .ref a ∧ y = .ref b ∧ SqT K H a (l.map V.str) ∧ SqT K H b (m.map V.str) ∧ (∀ z ∈ l, OkS z) ∧ (∀ z ∈ m, OkS z) ∧ Q (.bl (!decide (l = m))) H
theorem op_neT {k : Nat} (hr : Room k X.A) : OpR X (compareOp .NotEq) (rNeT X.K) := by
  intro pins s σ H x y v u Q I rx ry h
  obtain ⟨a, b, l, m, rfl, rfl, ha, hb, h1, h2, q⟩ := h
  refine op_neD hr.units pins s σ H _ _ v u Q I rx ry ⟨_, _, dp_row ha, dp_row hb, shaped_row h1, shaped_row h2, ?_⟩
  have e : PyData.eqv (.tuple (l.map PyData.str)) (.tuple (m.map PyData.str)) = decide (l = m) := by
    rw [← eqv_strs l m]
    simp only [PyData.eqv]
  rw [e]
  exact q
def rEqL (K : PySem.W.Frag) : R2 := fun x y H Q => ∃ (a b : Addr) (l m : List Str), x = .ref a ∧ y = .ref b ∧ SqL K H a (l.map V.str) ∧ SqL K H b (m.map V.str) ∧ (∀ z ∈ l, OkS z) ∧ (∀ z ∈ m, OkS z) ∧ Q (.bl (decide (l = m))) H
theorem op_eqL {k : Nat} (hr : Room k X.A) : OpR X (compareOp .Eq) (rEqL X.K) := by
  intro pins s σ H x y v u Q I rx ry h
  obtain ⟨a, b, l, m, rfl, rfl, ha, hb, h1, h2, q⟩ := h
  refine op_eqD hr.units pins s σ H _ _ v u Q I rx ry ⟨_, _, dp_lst ha, dp_lst hb, shaped_lst h1, shaped_lst h2, ?_⟩
  have e : PyData.eqv (.list (l.map PyData.str)) (.list (m.map PyData.str)) = decide (l = m) := by
    rw [← eqv_strs l m]
    simp only [PyData.eqv]
  rw [e]
  exact q
def rNeL (K : PySem.W.Frag) : R2 := fun x y H Q => ∃ (a b : Addr) (l m : List Str), x = .ref a ∧ y = .ref b ∧ SqL K H a (l.map V.str) ∧ SqL K H b (m.map V.str) ∧ (∀ z ∈ l, OkS z) ∧ (∀ z ∈ m, OkS z) ∧ Q (.bl (!decide (l = m))) H
theorem op_neL {k : Nat} (hr : Room k X.A) : OpR X (compareOp .NotEq) (rNeL X.K) := by
  intro pins s σ H x y v u Q I rx ry h
  obtain ⟨a, b, l, m, rfl, rfl, ha, hb, h1, h2, q⟩ := h
  refine op_neD hr.units pins s σ H _ _ v u Q I rx ry ⟨_, _, dp_lst ha, dp_lst hb, shaped_lst h1, shaped_lst h2, ?_⟩
  have e : PyData.eqv (.list (l.map PyData.str)) (.list (m.map PyData.str)) = decide (l = m) := by
    rw [← eqv_strs l m]
    simp only [PyData.eqv]
  rw [e]
  exact q
end
end LP

set_option Elab.async false
set_option linter.all false
set_option maxRecDepth 100000
set_option maxHeartbeats 4000000
namespace LP
open PySem PySem.Spec PyProof.Rows L2

/-! ### defs that are called where nothing is being shown -/
structure FnG (P : Program) (w : World) (K : PySem.W.Frag) (mg : Str → Option Value) (base : Heap) (k : Nat) (f : Addr) (fd : FuncData) (ps : List Str) (sp : Sp) : Prop where
  len : ∀ vs H Q E, sp vs H Q E → vs.length = ps.length
  run : ∀ (A : Around) (outer : List Env) (s : Shared) (H : Hp) (args : Args) (us : List Value) (vs : List V) (Q : VK) (E : XK), A.guards = some [] → Room k A → Env0 P w K mg base A outer s H →
    BindsTo s fd args (ps.zip us) → Vals vs us → sp vs H Q E → codeAny (model P w) A (.call (.ref f) args) (CR CX0 outer P w H s Q E) s
section
variable {P : Program} {w : World} {K : PySem.W.Frag} {mg : Str → Option Value} {base : Heap} {k : Nat} {f : Addr} {fd : FuncData}
theorem funG {x qual : Str} {st : Stmt} {N ps : List Str} {sp : Sp} (F : Fun K x qual st f fd) (S : FnScope N ps (defScope st)) (len : ∀ vs H Q E, sp vs H Q E → vs.length = ps.length)
    (hb : ∀ (cdv : Value) (A : Around) (outer : List Env) (s : Shared) (H : Hp) (vs : List V) (Q : VK) (E : XK), A.guards = some [] → Room k (A.deeper (envOfC qual (defScope st) s.heap.objs.size f cdv)) → sp vs H Q E →
      ∃ t, PSs (cxOf CX0 P w K mg base N qual (defScope st) f cdv A outer s H E).nox (defBody st) t ∧ t { nx := fun _ H' => Q .non H', rt := Q } (start N vs) H) : FnG P w K mg base (k + 1) f fd ps sp := by
  obtain ⟨oc, od, kV, doc, pm, an, cdv, ct, osl, rfl, lk, hcd⟩ := F.ex
  refine ⟨len, fun A outer s H args us vs Q E hg hr e0 hbd r hsp => ?_⟩
  have old : ∀ b o, base.get? b = some o → s.heap.get? b = some o := fun b o e => (e0.bs b o e).1
  have KX : K.In s.heap := e0.mod.kin.keeps old
  have lim : s.heap.NoLimit := e0.mod.nolimit.keeps old
  have par : ∀ y ∈ ps.zip us, (defScope st).names.lookup y.1 = some .local ∨ ((defScope st).names.lookup y.1 = some .cell ∧ ((cellsFrom (s.heap.objs.size + 1) (defScope st).names []).lookup y.1).isSome = true) := by
    rintro ⟨n, v⟩ hy
    rcases S.par n (List.of_mem_zip hy).1 with q | q
    · exact .inl q
    · exact .inr ⟨q, PySem.W.cellsFrom_some _ _ _ (.inl q)⟩
  refine codeAny_call_function hr.depth (KX _ _ lk) rfl S.co S.gen rfl (PySem.W.codeRec_of KX hcd) (hbd _ _ _ _ ?_)
  refine wpAny_newFunctionEnv_cells S.kind par fun env he s1 x => ?_
  subst he
  refine ⟨lim.keeps x.toInCall.keep, codeAny_func ?_⟩
  obtain ⟨t, ht, hq⟩ := hb cdv A outer s H vs Q E hg (hr.deeper _) hsp
  have I := inv_start (CX := CX0) (N := N) (ps := ps) (qual := qual) (f := f) (cd := cdv) (E := E) S hr.hd e0 (len _ _ _ _ hsp) r x
  refine wpAny_mono (ht.nox.run [] s1 (start N vs) H _ I hq) (fun fl s' hs => ?_) fun e s' hs => hs
  cases fl with
  | ret u =>
    obtain ⟨v, σ', H', J, rv, q⟩ := hs
    exact ⟨v, H', J.os, J.bare, J.base, J.hok, rv, q⟩
  | next =>
    obtain ⟨σ', H', J, q⟩ := hs
    exact ⟨.non, H', J.os, J.bare, J.base, J.hok, rfl, q⟩
  | brk =>
    obtain ⟨_, _, _, q⟩ := hs
    exact q.elim
  | cont =>
    obtain ⟨_, _, _, q⟩ := hs
    exact q.elim
end
section
variable {X : Cx} {k : Nat} {f : Addr} {fd : FuncData} {ps : List Str} {sp : Sp} {x : Str} {p pos : Pos} {e : Expr} {es : List Expr} {t : TA}
theorem pe_callG (F : FnG X.prog X.w X.K X.mg X.base k f fd ps sp) (hgd : X.A.guards = some []) (hr : Room k X.A) (hg : Gl X x) (hm : X.mg x = some (.ref f)) (hk : PySem.W.keepIn X.K (.ref f) = true) (hb : Binds X.K fd ps [])
    (ha : PA X (e :: es) t) (hdb : (x == ("__debug__" : Str)) = false := by decide) (he : starEach (e :: es) X.env = (false, eval e X.env) :: starEach es X.env := by rfl) (hpl : (backTo pos (starEach es X.env)).any (·.1) = false := by rfl) :
    PE X (.Call (.Name x p) (e :: es) [] pos) (tCall sp [] E0 t) := by
  refine ⟨fun pins s σ H Q I h => ?_⟩
  refine wpAny_Call_Name_kw (ld_glob I hg hm ?_ hdb)
  refine PySem.W.callWith_K (h₀ := X.base) I.ok.mod.kin hk (thn (ha.run pos pins s σ H _ I h) fun us s1 hq => ?_) he hpl
  obtain ⟨vs, H1, I1, r, q⟩ := hq
  rw [List.append_nil] at q
  have hl : (us ++ []).length = ps.length := by rw [List.append_nil, ← r.length]; exact F.len _ _ _ _ q
  have hb' := hb s1 us I1.kIn hl
  rw [List.append_nil] at hb'
  refine ⟨I1.kIn, wpAny_call (codeAny_mono (F.run X.A X.stack s1 H1 ⟨us, []⟩ us vs Q E0 hgd hr I1.env0 hb' r q) fun r s' hq => ?_)⟩
  cases r with
  | error e => exact hq.elim
  | ok fl =>
    cases fl with
    | ret u => exact I1.after hq
    | next => exact hq.elim
    | brk => exact hq.elim
    | cont => exact hq.elim
end

/-! ### the end, from a law that is called where nothing is being shown -/
theorem law_callG {P : Program} {w : World} {K : PySem.W.Frag} {mg mb : Str → Option Value} {k : Nat} {fa a : Addr} {fd : FuncData} {x : Str} {sp : Sp} {s1 : Shared} {vs : List Value} {ns : List Int}
    (KX : K.In s1.heap) (hns : s1.heap.Ns mainGlobals mg) (hb : s1.heap.Ns builtinsNs mb) (hbb : ∀ x : Str, x ≠ "__name__" → mb x = bootBuiltins x) (hlim : s1.heap.NoLimit) (hgn : s1.gens = #[])
    (ha : s1.heap.get? a = some { cls := .type "list", data := .seq vs.toArray }) (hi : IntsAre vs ns) (hl : ns.length ≤ sizeLine) (hr : Room k callerA)
    (F : ∀ base : Heap, K.In base → base.Ns mainGlobals mg → FnG P w K mg base k fa fd [x] sp) (hbind : ∀ (s : Shared) (u : Value), BindsTo s fd ⟨[u], []⟩ [(x, u)])
    (hsp : ∀ H : Hp, SqL K H a (ns.map V.int) → sp [.ref a] H (fun v _ => v = .bl true) fun _ _ _ => False) :
    codeAny (model P w) callerA (.call (.ref fa) ⟨[.ref a], []⟩) (fun r s' => r = .ok (.ret (.bool true)) ∧ OldK s1.heap s'.heap ∧ s'.os = s1.os ∧ AllBare s'.gens) s1 := by
  have rv := vals_ints hi
  have lenV := hi.length
  -- the abstract heap: nothing, or the script alone where the written part does not hold it
  obtain ⟨H, hS, hok, hA, hK⟩ : ∃ H : Hp, SqL K H a (ns.map V.int) ∧ HOk P w H s1.heap ∧ (∀ b, H b = none ∨ (b = a ∧ ∃ ob u, H b = some (.frz ob u))) ∧ (H a ≠ none → K.lookup a = none) := by
    cases hk : K.lookup a with
    | some o =>
      have e := KX a o hk
      rw [ha] at e
      cases e
      refine ⟨fun _ => none, .inr ⟨_, vs.toArray, _, hk, rfl, rfl, rfl, ?_, by simpa using rv⟩, fun b u z => (nomatch (show (none : Option HO) = some u from z)), fun b => .inl rfl, fun z => absurd rfl z⟩
      rw [List.size_toArray, lenV]
      exact hl
    | none =>
      refine ⟨fun b => if b = a then some (.frz { cls := .type "list", data := .seq vs.toArray } (.lst (ns.map V.int))) else none, .inl (.inr ⟨_, if_pos rfl⟩), fun b u z => ?_, fun b => ?_, fun _ => rfl⟩
      · by_cases q : b = a
        · subst q
          have z' := (if_pos rfl).symm.trans z
          cases z'
          exact ⟨ha, by rw [List.length_map]; exact hl, vs, _, rv, ha⟩
        · have z' := (if_neg q).symm.trans z
          cases z'
      · by_cases q : b = a
        · exact .inr ⟨q, _, _, if_pos q⟩
        · exact .inl (if_neg q)
  have nsK : ∀ {b : Addr} {m : Str → Option Value}, s1.heap.Ns b m → (hidT s1.heap H).Ns b m := by
    rintro b m ⟨o, es, ep, e, d, r⟩
    refine ⟨o, es, ep, hidT_get e ?_, d, r⟩
    rcases hA b with z | ⟨z, _⟩
    · exact z
    · subst z
      rw [ha] at e
      cases e
      cases d
  have hKb : K.In (hidT s1.heap H) := fun b o e => hidT_get (KX b o e) (by
    rcases hA b with z | ⟨z, ob, u, z2⟩
    · exact z
    · subst z
      have := hK (by rw [z2]; exact fun q => nomatch q)
      rw [this] at e
      cases e)
  have hM : Mod K mg (hidT s1.heap H) := ⟨hKb, nsK hns, ⟨mb, nsK hb, hbb⟩, let ⟨mc, h1, h2⟩ := hlim; ⟨mc, nsK h1, h2⟩⟩
  have e0 : Env0 P w K mg (hidT s1.heap H) callerA [] s1 H := ⟨rfl, hM, fun b o e => of_hidT e, Nat.le_of_eq (hidT_size _ _), trivial, fun b hb => (nomatch (show b ∈ ([] : List Addr) from hb)), hok, .of_eq hgn⟩
  refine codeAny_mono ((F _ hKb (nsK hns)).run callerA [] s1 H ⟨[.ref a], []⟩ [.ref a] [.ref a] _ _ rfl hr e0 (hbind s1 (.ref a)) (.cons rfl .nil) (hsp H hS)) fun r s' h => ?_
  cases r with
  | error e => exact h.elim
  | ok fl =>
    cases fl with
    | next => exact h.elim
    | brk => exact h.elim
    | cont => exact h.elim
    | ret u =>
      obtain ⟨v, H', os, bare, un, hok', r', q⟩ := h
      obtain rfl : v = .bl true := q
      obtain rfl : u = Value.bool true := r'
      refine ⟨rfl, OldK.of_keep fun b o e => ?_, os, bare⟩
      rcases hA b with z | ⟨z, ob, u, z2⟩
      · exact un.keep b o e z (fun y => (nomatch (show b ∈ ([] : List Addr) from y))) (by simp)
      · obtain ⟨e1, _⟩ := hok b _ z2
        obtain ⟨e2, _⟩ := hok' b _ (un.frzs b ob u z2)
        rw [e] at e1
        cases e1
        exact e2
theorem walk_ofG {l : PySem.W.OpenLaw} {n k : Nat} {q : Program} {loose : List Str} {XP : (Str → Option Value) → Heap → Prop} {YP : World → Heap → Prop} {d : DefRec} {K : Params → PySem.W.Frag} {sp : World → Sp} {x : Str}
    (hn : l.most = some n) (hn2 : n ≤ sizeLine) (hdf : d.params.defaults = []) (hr : Room k callerA) (hY : ∀ (w : World) (h : Heap), YP w h → (K w.params).In h)
    (F : ∀ (w : World) (mg : Str → Option Value) (fa : Addr) (h : Heap), (K w.params).In h → h.Ns mainGlobals mg → mg d.name = some (.ref fa) →
      ∃ fd : FuncData, (∀ (s : Shared) (u : Value), BindsTo s fd ⟨[u], []⟩ [(x, u)]) ∧ ∀ base : Heap, (K w.params).In base → base.Ns mainGlobals mg → FnG l.prog w (K w.params) mg base k fa fd [x] (sp w))
    (hsp : ∀ (w : World) (H : Hp) (a : Addr) (ns : List Int), ns.length ≤ n → SqL (K w.params) H a (ns.map V.int) → sp w [.ref a] H (fun v _ => v = .bl true) fun _ _ _ => False) :
    PySem.W.WalkO q loose XP YP l.row.toRowW d [] (fun f vs => PySem.call f vs) := by
  refine Att.attach_call hn hdf fun w s0 s1 mg mb fa o pm cd doc a vs ns G Y ho hd hcd hmg hobj hints hlen hg => ?_
  obtain ⟨fd, hb, hF⟩ := F w mg fa _ (hY w _ Y) G.T.g hmg
  exact law_callG (hY w _ Y) G.T.g G.T.b G.T.builtins G.T.nolimit hg hobj hints (Nat.le_trans hlen hn2) hr hF hb fun H hS => hsp w H a ns hlen hS
end LP

set_option Elab.async false
set_option linter.all false
set_option maxRecDepth 100000
set_option maxHeartbeats 4000000
/-! LpRules5: len(set(row)), the row a tuple of different texts, fewer than 60. -/
namespace LP
open PySem PySem.Spec PyProof.Rows L2
section
variable {prog : Program} {w : World} {A : Around} {R : Result → Shared → Prop} {J : Addr} {fp wr : List Addr} {G : Array GenState → Array GenState → Prop} {n : Nat} {P : Nat → Value → Prop} {St : Nat → Shared → Prop}
theorem took_any (xs : List Str) (nd : xs.Nodup) {i : Nat} (hi : i < xs.length) : (xs.take i).any (· == xs.getD i Str.empty) = false := by
  rw [List.any_eq_false]
  intro y hy he
  have e : y = xs[i] := by
    have := eq_of_beq he
    rw [this]
    simp [List.getD_eq_getElem?_getD, List.getElem?_eq_getElem hi]
  obtain ⟨j, hj, hjy⟩ := List.mem_iff_getElem.mp hy
  rw [List.getElem_take] at hjy
  rw [List.length_take] at hj
  have e1 : xs.idxOf xs[i] = i := nd.idxOf_getElem i hi
  have e2 : xs.idxOf xs[j] = j := nd.idxOf_getElem j (by omega)
  rw [hjy, e, e1] at e2
  omega
theorem took_more (xs : List Str) {i : Nat} (hi : i < xs.length) (k : Str) : (xs.take (i + 1)).any (· == k) = ((xs.take i).any (· == k) || decide (k = xs.getD i Str.empty)) := by
  rw [List.take_succ_eq_append_getElem hi, List.any_append]
  congr 1
  simp only [List.any_cons, List.any_nil, Bool.or_false, List.getD_eq_getElem?_getD, List.getElem?_eq_getElem hi, Option.getD_some]
  by_cases e : k = xs[i]
  · subst e; simp
  · have e' : (xs[i] == k) = false := beq_eq_false_iff_ne.mpr fun h => e h.symm
    rw [e']
    simp [e]
theorem walk_set (W : WalksS prog w A.in1 J fp wr G n P St) (T : Addr) (out : T ∉ fp) (xs : List Str) (nd : xs.Nodup) (len : xs.length = n) (small : n < 60)
    (val : ∀ i v, P i v → ∃ t, v = .str (xs.getD i Str.empty) t) (left : Nat) :
    ∀ (i : Nat) (s : Shared), i + left = n → St i s → s.heap.SetOf (PySem.strKind prog w) T (fun k' => (xs.take i).any (· == k')) i →
      (∀ s', Moved (T :: wr) G s s' → s'.heap.SetOf (PySem.strKind prog w) T (fun k' => (xs.take n).any (· == k')) n → R (.ok (.ret .none)) s') →
      codeAny (model prog w) A (.builtin "set.update.loop" ⟨[.ref T, .ref J], []⟩) R s := by
  have outW : T ∉ wr := out ∘ W.sub _
  have more : ∀ b ∈ wr, b ∈ T :: wr := fun _ => List.mem_cons_of_mem _
  have keep : ∀ {s s' : Shared} {S : Str → Bool} {m : Nat}, Moved wr G s s' → s.heap.SetOf (PySem.strKind prog w) T S m → s'.heap.SetOf (PySem.strKind prog w) T S m := fun hm ⟨o, es, ep, t, ho, z⟩ => ⟨o, es, ep, t, hm.heap T _ outW ho, z⟩
  induction left with
  | zero =>
    intro i s e st hS hR
    obtain rfl : i = n := by omega
    refine codeAny_builtin F.entry_set_update_loop ?_
    rw [Around.under_plainId F.plain_set_update_loop _]
    exact wpAny_bind (W.done s _ _ st fun s' hm => wpAny_pure (hR s' (hm.mono more) (keep hm hS)))
  | succ left ih =>
    intro i s e st hS hR
    have lt : i < n := by omega
    refine codeAny_builtin F.entry_set_update_loop ?_
    rw [Around.under_plainId F.plain_set_update_loop _]
    refine wpAny_bind (W.item i s _ _ lt st fun v s1 hP st1 hm => ?_)
    obtain ⟨t, rfl⟩ := val i v hP
    refine wpAny_bind (wpAny_holding (wpAny_holding (wpAny_bind ((PySem.strKind prog w).pyHash (k := xs.getD i Str.empty) (strKind_is _ _ _ _) ?_))))
    refine wpAny_setAddHashed_of (knd := PySem.strKind prog w) (s := { s1 with toks := s1.toks + 1 }) (strKind_is _ _ _ _) rfl (show s1.heap.SetOf _ _ _ _ from keep hm hS) (by unfold scanBound; omega) fun h2 kb hS2 => wpAny_pure ⟨plainId_quiet F.plain_set_update_loop _, ?_⟩
    refine ih (i + 1) _ (by omega) (W.frame _ s1 _ _ st1 (Nat.le_succ _) fun b hb o eo => ?_) ?_ fun s3 hm3 hS3 => hR s3 (Moved.trans W.gtrans ((hm.mono more).then_heap (Nat.le_succ _) fun b o hb eo => ?_) hm3) hS3
    · rw [kb.2 b (fun h : b = T => out (h ▸ hb))]; exact eo
    · refine SetOf_congr hS2 (fun k => (took_more xs (by omega) k).symm) ?_
      rw [took_any xs nd (by omega)]; rfl
    · rw [kb.2 b (fun h : b = T => hb (h ▸ List.mem_cons_self))]; exact eo
end
section
variable {prog : Program} {w : World} {A : Around} {E : Value → Shared → Prop} {s : Shared}
set_option maxHeartbeats 8000000 in
theorem set_of_row {row : Addr} {its : Array Value} {xs : List Str} {Q : Value → Shared → Prop} (calm : A.handled = none) (hl : s.heap.IsTuple row its) (txts : StrsAre its.toList xs) (nd : xs.Nodup) (small : xs.length < 60)
    (then_ : ∀ (h' : Heap) (tk : Nat), h'.SetOf (PySem.strKind prog w) s.heap.objs.size (fun k' => (xs.take its.size).any (· == k')) its.size →
      (∀ b o, b < s.heap.objs.size → s.heap.get? b = some o → h'.get? b = some o) → Q (.ref s.heap.objs.size) { s with heap := h', toks := tk }) :
    wpAny (model prog w) A (call (.type "set") [.ref row]) Q E s := by
  obtain ⟨_, _, mro⟩ := PySem.F.called_set.mro
  have m1 := PySem.F.called_set.made
  have m2 := PySem.F.called_set.sub
  refine wpAny_call (codeAny_of_tree ?_)
  show wpAny _ _ (callAny (.type "set") _) _ _ _
  refine wpAny_pure ⟨Code.quiet_builtin _ (by decide +kernel), codeAny_builtin PySem.F.entry_type_call ?_⟩
  rw [Around.under_plain (weight_type_call_type "set" [.ref row] []) rfl]
  have m3 := PySem.F.called_set.notType
  have m4 := PySem.F.called_set.canCreate
  have m5 := PySem.F.typeCall_set_1 (.ref row)
  repeat (any_goals (first | assumption | wp_step))
  refine codeAny_mono (code_set_new_1 (.ref row) (E := E) (Q₁ := fun x s1 => ∃ led : Bool, x = .ref s.heap.objs.size ∧ s1 = { s with heap := s.heap.push { cls := .type "set", dict := none, data := .set #[] 0 (.fresh 0 0 led) } }) fun led => ⟨led, rfl, rfl⟩) fun r s1 hr => ?_
  rcases r with e | fl
  · exact hr
  cases fl <;> first | exact hr.elim | skip
  obtain ⟨led, rfl, rfl⟩ := hr
  have new : (s.heap.push { cls := .type "set", dict := none, data := .set #[] 0 (.fresh 0 0 led) }).get? s.heap.objs.size = some { cls := .type "set", dict := none, data := .set #[] 0 (.fresh 0 0 led) } := Heap.get?_push_size _ rfl
  have ty : Shared.TypeIs { s with heap := s.heap.push { cls := .type "set", dict := none, data := .set #[] 0 (.fresh 0 0 led) } } (.ref s.heap.objs.size) "set" := ⟨_, new, rfl⟩
  have m6 := PySem.F.called_set.init.lookup
  have m7 := PySem.F.called_set.init.bind (.ref s.heap.objs.size)
  repeat (any_goals (first | assumption | wp_step))
  refine codeAny_mono (codeAny_call_builtin (R := wants (fun r s2 => r = .none ∧ ∃ h' tk, s2 = { s with heap := h', toks := tk } ∧
      h'.SetOf (PySem.strKind prog w) s.heap.objs.size (fun k' => (xs.take its.size).any (· == k')) its.size ∧
      (∀ b o, b < s.heap.objs.size → s.heap.get? b = some o → h'.get? b = some o)) E) PySem.F.called_set.init.plain PySem.F.entry_set_init (check_set_init_1 ty ?_)) fun r s2 hr => ?_
  · obtain ⟨⟨_, dd, dt, sl⟩, ho, hc, n, hd⟩ := hl
    simp only at hc hd
    subst hc
    subst hd
    have ho1 : (s.heap.push { cls := .type "set", dict := none, data := .set #[] 0 (.fresh 0 0 led) }).get? row = some { cls := .type "tuple", dict := dd, data := .seq its n, slots := sl } := Heap.get?_push_of_some _ ho
    have m8 := PySem.F.sub_tuple_set
    have m9 := PySem.F.sub_tuple_frozenset
    have m10 : (Value.type "tuple" == Value.type "dict") = false := by decide
    have tup : (s.heap.push { cls := .type "set", dict := none, data := .set #[] 0 (.fresh 0 0 led) }).IsTuple row its := ⟨_, ho1, rfl, n, rfl⟩
    unfold Builtin.«set.__init__» noKeywords Builtin.Frozenset.updateFrom
    generalize eI : pyIter = it
    wp_walk
    subst eI
    refine wpAny_pyIter_tuple tup (wpAny_bind (wpAny_runValue ?_))
    have lt : row < s.heap.objs.size := Heap.lt_size ho
    have calm3 : A.in1.in1.in1.handled = none := by simp [calm]
    have ne : row ≠ (s.heap.push { cls := .type "set", dict := none, data := .set #[] 0 (.fresh 0 0 led) }).objs.size := by rw [Heap.size_push]; exact Nat.ne_of_lt (Nat.lt_succ_of_lt lt)
    have out : s.heap.objs.size ∉ [(s.heap.push { cls := .type "set", dict := none, data := .set #[] 0 (.fresh 0 0 led) }).objs.size, row] := by
      rw [Heap.size_push]
      simp only [List.mem_cons, List.not_mem_nil, or_false, not_or]
      exact ⟨Nat.ne_of_lt (Nat.lt_succ_self _), Nat.ne_of_gt lt⟩
    have sz : xs.length = its.size := by rw [← StrsAre.len_eq txts, Array.length_toList]
    refine walk_set ((Walks.tuple calm3 _ row ne its).toS) s.heap.objs.size out xs nd sz (by omega) (fun i v hv => SS.strs_at txts i v (by rw [Array.getElem?_toList]; exact hv)) its.size 0 _ (by omega)
      ⟨⟨_, Heap.get?_push_size _ rfl, rfl, rfl⟩, tup.push _⟩ ?_ ?_
    · exact SetOf_congr ((setObjOf_fresh (knd := PySem.strKind prog w) led).setOf (Heap.get?_push_of_some _ new) (by unfold scanBound; omega)) (fun _ => rfl) rfl
    · rintro ⟨h', g', d', tk, os⟩ hm hS
      obtain rfl : g' = s.gens := hm.gens
      obtain rfl : d' = s.drawn := hm.drawn
      obtain rfl : os = s.os := hm.os
      refine wpAny_pure (wpAny_pure ⟨rfl, h', tk, rfl, hS, fun b o hb e => ?_⟩)
      refine hm.heap b o ?_ (Heap.get?_push_of_some _ (Heap.get?_push_of_some _ e))
      rw [Heap.size_push]
      simp only [List.mem_cons, List.not_mem_nil, or_false, not_or]
      exact ⟨Nat.ne_of_lt hb, Nat.ne_of_lt (Nat.lt_succ_of_lt hb)⟩
  · rcases r with e | fl
    · exact hr
    cases fl <;> first | exact hr.elim | skip
    obtain ⟨rfl, h', tk, rfl, hS, kept⟩ := hr
    repeat (any_goals (first | assumption | wp_step))
    exact then_ _ _ hS kept
end
section
variable {X : Cx}
/-- len(set(row)) -/
def tLenNd (K : PySem.W.Frag) (ta : TE) : TE := fun σ H Q => ta σ H fun x H1 => ∃ l, ∃ xs : List Str, x = .ref l ∧ SqT K H1 l (xs.map V.str) ∧ xs.Nodup ∧ xs.length < 60 ∧ Q (.int xs.length) H1
theorem pe_lenNd {a : Expr} {ta : TE} {p p2 q pos : Pos} (hc : X.calm = true) (hg : Gl X "len") (hm : X.mg "len" = none) (hg2 : Gl X "set") (hm2 : X.mg "set" = none) (ha : PE X a ta)
    (na : starEach [a] X.env = (false, eval a X.env) :: starEach [] X.env := by rfl) : PE X (.Call (.Name "len" p) [.Call (.Name "set" p2) [a] [] q] [] pos) (tLenNd X.K ta) := by
  refine ⟨fun pins s σ H Q I h => Call_ (ld_blt I hg hm boot_len (callWith_builtin1 (args_cons ?_ rfl) rfl rfl))⟩
  refine Call_ (ld_blt I hg2 hm2 boot_set (callWith_type1 (args_cons (thn (ha.run pins s σ H _ I h) fun v s1 ⟨x, H1, I1, r1, q1⟩ => args_nil ?_) na) na rfl))
  obtain ⟨l, xs, rfl, hq, nd, small, q⟩ := q1
  cases r1
  obtain ⟨its, r, pl, hz⟩ := I1.tuple hq
  have hl : its.toArray.size = xs.length := by rw [List.size_toArray, ← r.length, List.length_map]
  refine set_of_row (I1.ok.hd hc) pl (by simpa using strsAre_of r) nd small fun h' tk hS hk => args_nil ?_
  rw [hl] at hS
  obtain ⟨o, es, ep, t, ho, hex, hd, _, _, _, hf, hn⟩ := hS
  exact call_len_set ho hex hd hf (by rw [hn]; omega) ⟨.int xs.length, H1, (I1.kept fun b o e => hk b o (Heap.lt_size e) e).tok _, ⟨_, by rw [hn]⟩, q⟩
end
end LP

set_option Elab.async false
set_option linter.all false
set_option maxRecDepth 100000
set_option maxHeartbeats 4000000
/-! LpText: the defs by places, what the top has, the call of a def by its name. -/
namespace LP
open PySem PySem.Spec PyProof.Rows L2
def topS (i : Nat) : Stmt := PySem.Challenge.pw_lastpasses_k64_whole_mirrored_kinds.main.body.getD i (.Pass ⟨0, 0, 0, 0⟩)
abbrev s_is_kind : Stmt := topS 8
theorem sc_is_kind : FnScope ["value"] ["value"] (defScope s_is_kind) := ⟨rfl, rfl, rfl, by decide +kernel, rfl, by decide +kernel, by decide +kernel⟩
abbrev s_is_name : Stmt := topS 13
theorem sc_is_name : FnScope ["value", "letter"] ["value"] (defScope s_is_name) := ⟨rfl, rfl, rfl, by decide +kernel, rfl, by decide +kernel, by decide +kernel⟩
abbrev s_is_name_row : Stmt := topS 14
theorem sc_is_name_row : FnScope ["value", "name"] ["value"] (defScope s_is_name_row) := ⟨rfl, rfl, rfl, by decide +kernel, rfl, by decide +kernel, by decide +kernel⟩
abbrev s_is_double : Stmt := topS 15
theorem sc_is_double : FnScope ["value", "row"] ["value"] (defScope s_is_double) := ⟨rfl, rfl, rfl, by decide +kernel, rfl, by decide +kernel, by decide +kernel⟩
abbrev s_is_record : Stmt := topS 16
theorem sc_is_record : FnScope ["value", "before", "kind", "later"] ["value"] (defScope s_is_record) := ⟨rfl, rfl, rfl, by decide +kernel, rfl, by decide +kernel, by decide +kernel⟩
abbrev s_check_names : Stmt := topS 17
theorem sc_check_names : FnScope ["values", "valid", "index", "value"] ["values", "valid"] (defScope s_check_names) := ⟨rfl, rfl, rfl, by decide +kernel, rfl, by decide +kernel, by decide +kernel⟩
abbrev s_check_records : Stmt := topS 18
theorem sc_check_records : FnScope ["records"] ["records"] (defScope s_check_records) := ⟨rfl, rfl, rfl, by decide +kernel, rfl, by decide +kernel, by decide +kernel⟩
abbrev s_compared : Stmt := topS 19
theorem sc_compared : FnScope ["record", "before", "kind", "later", "sitter", "others", "pairs", "person", "leaver", "stayer"] ["record"] (defScope s_compared) := ⟨rfl, rfl, rfl, by decide +kernel, rfl, by decide +kernel, by decide +kernel⟩
abbrev s_comparisons : Stmt := topS 20
theorem sc_comparisons : FnScope ["record", "pairs"] ["record"] (defScope s_comparisons) := ⟨rfl, rfl, rfl, by decide +kernel, rfl, by decide +kernel, by decide +kernel⟩
abbrev s_shorter_ones : Stmt := topS 21
theorem sc_shorter_ones : FnScope ["records", "below", "record", "pairs", "shorter", "taller", "name"] ["records"] (defScope s_shorter_ones) := ⟨rfl, rfl, rfl, by decide +kernel, rfl, by decide +kernel, by decide +kernel⟩
abbrev s_first_order : Stmt := topS 22
theorem sc_first_order : FnScope ["below", "order", "free", "name", "one"] ["below"] (defScope s_first_order) := ⟨rfl, rfl, rfl, by decide +kernel, rfl, by decide +kernel, by decide +kernel⟩
abbrev s_find_order : Stmt := topS 23
theorem sc_find_order : FnScope ["records", "below"] ["records"] (defScope s_find_order) := ⟨rfl, rfl, rfl, by decide +kernel, rfl, by decide +kernel, by decide +kernel⟩
abbrev s_other_kind : Stmt := topS 24
theorem sc_other_kind : FnScope ["kind"] ["kind"] (defScope s_other_kind) := ⟨rfl, rfl, rfl, by decide +kernel, rfl, by decide +kernel, by decide +kernel⟩
abbrev s_possible_kinds : Stmt := topS 25
theorem sc_possible_kinds : FnScope ["pairs", "words", "first", "kinds", "below", "before", "later", "kind"] ["pairs"] (defScope s_possible_kinds) := ⟨rfl, rfl, rfl, by decide +kernel, rfl, by decide +kernel, by decide +kernel⟩
abbrev s_l_cell : Stmt := topS 27
theorem sc_l_cell : FnScope ["_law_script", "_law_k", "_law_state", "_law_number"] ["_law_script", "_law_k"] (defScope s_l_cell) := ⟨rfl, rfl, rfl, by decide +kernel, rfl, by decide +kernel, by decide +kernel⟩
abbrev s_l_pool : Stmt := topS 28
theorem sc_l_pool : FnScope ["_law_number", "_law_digits"] ["_law_number"] (defScope s_l_pool) := ⟨rfl, rfl, rfl, by decide +kernel, rfl, by decide +kernel, by decide +kernel⟩
abbrev s_l_draw : Stmt := topS 29
theorem sc_l_draw : FnScope ["_law_pool_here", "_law_count", "_law_state", "_law_digit"] ["_law_pool_here", "_law_count"] (defScope s_l_draw) := ⟨rfl, rfl, rfl, by decide +kernel, rfl, by decide +kernel, by decide +kernel⟩
abbrev s_l_names : Stmt := topS 30
theorem sc_l_names : FnScope ["_law_pool_here", "_law_many", "_law_own", "_law_letters", "_law_found", "_law_turn", "_law_spelt", "_law_some", "_law_letter", "_law_k", "_law_call"] ["_law_pool_here", "_law_many"] (defScope s_l_names) := ⟨rfl, rfl, rfl, by decide +kernel, rfl, by decide +kernel, by decide +kernel⟩
abbrev s_l_mixed : Stmt := topS 31
theorem sc_l_mixed : FnScope ["_law_pool_here", "_law_things", "_law_left", "_law_found", "_law_k"] ["_law_pool_here", "_law_things"] (defScope s_l_mixed) := ⟨rfl, rfl, rfl, by decide +kernel, rfl, by decide +kernel, by decide +kernel⟩
abbrev s_l_later : Stmt := topS 32
theorem sc_l_later : FnScope ["_law_line", "_law_sort", "_law_ranks_by", "_law_sitter", "_law_gone", "_law_person", "_law_low", "_law_high"] ["_law_line", "_law_sort", "_law_ranks_by"] (defScope s_l_later) := ⟨rfl, rfl, rfl, by decide +kernel, rfl, by decide +kernel, by decide +kernel⟩
abbrev s_l_ranked : Stmt := topS 33
theorem sc_l_ranked : FnScope ["_law_folk", "_law_k", "_law_person"] ["_law_folk"] (defScope s_l_ranked) := ⟨rfl, rfl, rfl, by decide +kernel, rfl, by decide +kernel, by decide +kernel⟩
abbrev s_l_changed : Stmt := topS 34
theorem sc_l_changed : FnScope ["_law_pool_here", "_law_line", "_law_later_here", "_law_way", "_law_k", "_law_j", "_law_found"] ["_law_pool_here", "_law_line", "_law_later_here"] (defScope s_l_changed) := ⟨rfl, rfl, rfl, by decide +kernel, rfl, by decide +kernel, by decide +kernel⟩
abbrev s_l_mirror : Stmt := topS 35
theorem sc_l_mirror : FnScope ["_law_spelt", "_law_sort"] ["_law_spelt"] (defScope s_l_mirror) := ⟨rfl, rfl, rfl, by decide +kernel, rfl, by decide +kernel, by decide +kernel⟩
abbrev s_l_doubles : Stmt := topS 36
theorem sc_l_doubles : FnScope ["_law_pool_here", "_law_folk", "_law_hidden", "_law_line", "_law_found", "_law_spelt", "_law_turn", "_law_later_here", "_law_k"] ["_law_pool_here", "_law_folk"] (defScope s_l_doubles) := ⟨rfl, rfl, rfl, by decide +kernel, rfl, by decide +kernel, by decide +kernel⟩
abbrev s_l_seen : Stmt := topS 37
theorem sc_l_seen : FnScope ["_law_doubles_here", "_law_spelt", "_law_k"] ["_law_doubles_here", "_law_spelt"] (defScope s_l_seen) := ⟨rfl, rfl, rfl, by decide +kernel, rfl, by decide +kernel, by decide +kernel⟩
abbrev s_l_by_ends : Stmt := topS 38
theorem sc_l_by_ends : FnScope ["_law_doubles_here", "_law_found", "_law_first", "_law_begin", "_law_spelt", "_law_line", "_law_later_here"] ["_law_doubles_here"] (defScope s_l_by_ends) := ⟨rfl, rfl, rfl, by decide +kernel, rfl, by decide +kernel, by decide +kernel⟩
abbrev s_l_word_right : Stmt := topS 39
theorem sc_l_word_right : FnScope ["_law_pool_here", "_law_doubles_here", "_law_spelt", "_law_order", "_law_line", "_law_sort", "_law_later_here", "_law_k", "_law_bent"] ["_law_pool_here", "_law_doubles_here", "_law_spelt"] (defScope s_l_word_right) := ⟨rfl, rfl, rfl, by decide +kernel, rfl, by decide +kernel, by decide +kernel⟩
abbrev s_l_right : Stmt := topS 40
theorem sc_l_right : FnScope ["_law_pool_here", "_law_folk", "_law_doubles_here", "_law_spelt", "_law_told", "_law_word_here", "_law_ends", "_law_most", "_law_begun", "_law_line", "_law_later_here", "_law_due", "_law_double", "_law_k"] ["_law_pool_here"] (defScope s_l_right) := ⟨rfl, rfl, rfl, by decide +kernel, rfl, by decide +kernel, by decide +kernel⟩
abbrev s_law : Stmt := topS 41
theorem sc_law : FnScope ["_law_script", "_law_k", "_law_pool_here"] ["_law_script"] (defScope s_law) := ⟨rfl, rfl, rfl, by decide +kernel, rfl, by decide +kernel, by decide +kernel⟩
/-! ### scopes within a text -/
def scOf : Expr → Scope
  | .ListComp _ _ s _ => s
  | _ => { kind := .function, names := [], isGenerator := false, isCoroutine := false }
def valOf : Stmt → Expr
  | .Assign _ v _ => v
  | _ => .Constant .none 0 ⟨0, 0, 0, 0⟩
def bodyOf : Stmt → List Stmt
  | .While _ b _ _ => b
  | _ => []
def frScope : Scope := scOf (valOf ((bodyOf ((defBody s_first_order).getD 1 (.Pass ⟨0, 0, 0, 0⟩))).getD 0 (.Pass ⟨0, 0, 0, 0⟩)))
/-- a def of the top, under its name -/
structure Df (K : PySem.W.Frag) (mg : Str → Option Value) (x : Str) (st : Stmt) : Prop where
  ex : ∃ (f : Addr) (fd : FuncData), Fun K x x st f fd ∧ mg x = some (.ref f)
/-- a def that keeps the promise sp, called by its name -/
structure Ca (P : Program) (w : World) (K : PySem.W.Frag) (mg : Str → Option Value) (base : Heap) (k : Nat) (x : Str) (sp : Sp) : Prop where
  ex : ∃ (f : Addr) (fd : FuncData) (ps : List Str), FnOk P w K mg base CX0 k f fd ps sp ∧ mg x = some (.ref f) ∧ PySem.W.keepIn K (.ref f) = true ∧ Binds K fd ps []
structure CaG (P : Program) (w : World) (K : PySem.W.Frag) (mg : Str → Option Value) (base : Heap) (k : Nat) (x : Str) (sp : Sp) : Prop where
  ex : ∃ (f : Addr) (fd : FuncData) (ps : List Str), FnG P w K mg base k f fd ps sp ∧ mg x = some (.ref f) ∧ PySem.W.keepIn K (.ref f) = true ∧ Binds K fd ps []
abbrev Bd (x : Str) (st : Stmt) (ps : List Str) : Prop := ∀ (kV doc pm : Value) (an : Option Addr) (cdv ct : Value) (us : List Value), us.length = ps.length →
  bindArgs (PySem.W.fnOf x x (defArgs st) (defBody st) (defScope st) .none kV doc pm an cdv ct) ⟨us, []⟩ = pure (ps.zip us)
section
variable {P : Program} {w : World} {K : PySem.W.Frag} {mg : Str → Option Value} {base : Heap} {k : Nat} {x : Str} {st : Stmt} {N ps : List Str} {sp : Sp}
theorem ca_mk (D : Df K mg x st) (S : FnScope N ps (defScope st)) (b : Bd x st ps) (len : ∀ vs H Q E, sp vs H Q E → vs.length = ps.length)
    (body : ∀ (f : Addr) (cdv : Value) (A : Around) (outer : List Env) (s : Shared) (H : Hp) (vs : List V) (Q : VK) (E : XK), Room k (A.deeper (envOfC x (defScope st) s.heap.objs.size f cdv)) → sp vs H Q E →
      ∃ t, PSs (cxOf CX0 P w K mg base N x (defScope st) f cdv A outer s H E).nox (defBody st) t ∧ t { nx := fun _ H' => Q .non H', rt := Q } (start N vs) H) : Ca P w K mg base (k + 1) x sp := by
  obtain ⟨f, fd, F, m⟩ := D.ex
  exact ⟨f, fd, ps, F.ok S len (body f), m, F.kp, F.binds b⟩
theorem caG_mk (D : Df K mg x st) (S : FnScope N ps (defScope st)) (b : Bd x st ps) (len : ∀ vs H Q E, sp vs H Q E → vs.length = ps.length)
    (body : ∀ (f : Addr) (cdv : Value) (A : Around) (outer : List Env) (s : Shared) (H : Hp) (vs : List V) (Q : VK) (E : XK), A.guards = some [] → Room k (A.deeper (envOfC x (defScope st) s.heap.objs.size f cdv)) → sp vs H Q E →
      ∃ t, PSs (cxOf CX0 P w K mg base N x (defScope st) f cdv A outer s H E).nox (defBody st) t ∧ t { nx := fun _ H' => Q .non H', rt := Q } (start N vs) H) : CaG P w K mg base (k + 1) x sp := by
  obtain ⟨f, fd, F, m⟩ := D.ex
  exact ⟨f, fd, ps, funG F S len (body f), m, F.kp, F.binds b⟩
theorem Ca.up {sp' : Sp} (c : Ca P w K mg base k x sp) (h : ∀ vs H Q E, sp' vs H Q E → sp vs H Q E) : Ca P w K mg base k x sp' := by
  obtain ⟨f, fd, ps, F, m, kp, b⟩ := c.ex
  exact ⟨f, fd, ps, ⟨fun vs H Q E q => F.len vs H Q E (h _ _ _ _ q), fun A outer s H args us vs Q E hr e hb r q => F.run A outer s H args us vs Q E hr e hb r (h _ _ _ _ q)⟩, m, kp, b⟩
end
section
variable {X : Cx} {k j : Nat} {x : Str} {sp : Sp} {p pos : Pos} {e : Expr} {es : List Expr} {t : TA}
theorem pe_ca (c : Ca X.prog X.w X.K X.mg X.base k x sp) (hr : Room j X.A) (hk : k ≤ j) (hg : Gl X x) (ha : PA X (e :: es) t)
    (hdb : (x == ("__debug__" : Str)) = false := by decide) (he : starEach (e :: es) X.env = (false, eval e X.env) :: starEach es X.env := by rfl) (hpl : (backTo pos (starEach es X.env)).any (·.1) = false := by rfl) :
    PE X (.Call (.Name x p) (e :: es) [] pos) (tCall sp [] E0 t) := by
  obtain ⟨f, fd, ps, F, hm, kp, b⟩ := c.ex
  exact pe_call F (hr.mono hk) hg hm kp b .nil pass0 ha hdb he hpl
theorem pe_caG (c : CaG X.prog X.w X.K X.mg X.base k x sp) (hgd : X.A.guards = some []) (hr : Room j X.A) (hk : k ≤ j) (hg : Gl X x) (ha : PA X (e :: es) t)
    (hdb : (x == ("__debug__" : Str)) = false := by decide) (he : starEach (e :: es) X.env = (false, eval e X.env) :: starEach es X.env := by rfl) (hpl : (backTo pos (starEach es X.env)).any (·.1) = false := by rfl) :
    PE X (.Call (.Name x p) (e :: es) [] pos) (tCall sp [] E0 t) := by
  obtain ⟨f, fd, ps, F, hm, kp, b⟩ := c.ex
  exact pe_callG F hgd (hr.mono hk) hg hm kp b ha hdb he hpl
end
section
variable {X : Cx} {x : Str} {pos : Pos} {v : V}
/-- a constant of the top -/
theorem pe_con (hg : Gl X x) (h : ∃ u, X.mg x = some u ∧ RelV v u) (hd : (x == ("__debug__" : Str)) = false := by decide) : PE X (.Name x pos) (tC v) := h.elim fun _ hu => pe_glob hg hu.1 hu.2 hd
/-- a statement and what follows it, with a middle that is shown once -/
def tMid (t u : TS) : TS := fun D σ H => ∃ M : L2.St → Hp → Prop, t { D with nx := M } σ H ∧ ∀ σ1 H1, M σ1 H1 → u D σ1 H1
theorem pss_mid {st : Stmt} {r : List Stmt} {t u : TS} (a : PS X st t) (b : PSs X r u) : PSs X (st :: r) (tMid t u) := by
  refine ⟨fun pins s σ H D I h => h.elim fun M hm => wpAny_execs_cons (thn (a.run pins s σ H { D with nx := M } I hm.1) fun fl s1 q => ?_)⟩
  cases fl with
  | next =>
    obtain ⟨σ1, H1, I1, q1⟩ := q
    exact b.run pins s1 σ1 H1 D I1 (hm.2 σ1 H1 q1)
  | ret _ => exact q
  | brk => exact q
  | cont => exact q
end
/-! ### rules at a written part that is named -/
section
variable {X : Cx} (K : PySem.W.Frag)
theorem op_in_seqK (h : X.K = K := by rfl) : OpR X (compareOp .In) (rIn K false) := by subst h; exact op_in_seq
theorem op_notIn_seqK (h : X.K = K := by rfl) : OpR X (compareOp .NotIn) (rIn K true) := by subst h; exact op_notIn_seq
theorem ix_tupK (h : X.K = K := by rfl) : IxR X (rIxT K) := by subst h; exact ix_tup
theorem ix_listK (h : X.K = K := by rfl) : IxR X (rIxL K) := by subst h; exact ix_list
theorem cr_allK (hc : X.calm = true) (h : X.K = K := by rfl) : CallR X (.builtin "all") (rAll K) := by subst h; exact cr_all hc
theorem pi_listK {tg l : Expr} {tl : TE} (hl : PE X l tl) (h : X.K = K := by rfl) : PI X tg l (iList K tl) := by subst h; exact pi_list hl
theorem pi_tupK {tg l : Expr} {tl : TE} (hl : PE X l tl) (h : X.K = K := by rfl) : PI X tg l (iTup K tl) := by subst h; exact pi_tup hl
theorem pg_tupK {es : List Expr} {k : Nat} {pos : Pos} {t : TGs} (n : Nat) (hc : X.calm = true) (hh : PGs X es t) (h : X.K = K := by rfl)
    (hn : (assignEach es X.env).length = n := by rfl) (hst : (assignEach es X.env).findIdx? (·.1) = none := by rfl) : PG X (.Tuple es k pos) (gTup K n t) := by subst h; exact pg_tup hc hh hn hst
end
/-- what the top has written and what it has not -/
structure Tx (K : PySem.W.Frag) (mg : Str → Option Value) (aK : Addr) : Prop where
  b_isinstance : mg "isinstance" = none
  b_str : mg "str" = none
  b_len : mg "len" = none
  b_all : mg "all" = none
  b_set : mg "set" = none
  b_sorted : mg "sorted" = none
  b_tuple : mg "tuple" = none
  b_enumerate : mg "enumerate" = none
  b_zip : mg "zip" = none
  b_range : mg "range" = none
  b_abs : mg "abs" = none
  b_divmod : mg "divmod" = none
  b_list : mg "list" = none
  b_dict : mg "dict" = none
  b_max : mg "max" = none
  b_min : mg "min" = none
  b_int : mg "int" = none
  b_repr : mg "repr" = none
  g_MOST_PEOPLE : ∃ u, mg "MOST_PEOPLE" = some u ∧ RelV (.int 12) u
  g_SHORTEST : ∃ u, mg "SHORTEST" = some u ∧ RelV (.str "S") u
  g_TALLEST : ∃ u, mg "TALLEST" = some u ∧ RelV (.str "T") u
  g_KINDS : ∃ u, mg "KINDS" = some u ∧ RelV (.ref aK) u
  g_LETTERS : ∃ u, mg "LETTERS" = some u ∧ RelV (.str "abcdefghijklmnopqrstuvwxyz") u
  g_MOST_LETTERS_OF_NAME : ∃ u, mg "MOST_LETTERS_OF_NAME" = some u ∧ RelV (.int 6) u
  g_MOST_RECORDS : ∃ u, mg "MOST_RECORDS" = some u ∧ RelV (.int 20) u
  kinds : ∃ o its n, K.lookup aK = some o ∧ o.cls = .type "tuple" ∧ o.data = .seq its n ∧ its.size ≤ sizeLine ∧ Vals [V.str "S", V.str "T"] its.toList
theorem Tx.seq {K : PySem.W.Frag} {mg : Str → Option Value} {aK : Addr} (T : Tx K mg aK) (H : Hp) : SqT K H aK [V.str "S", V.str "T"] := .inr T.kinds

/-! ### heaps -/
/-- the tuples stand -/
def Gr (H H' : Hp) : Prop := ∀ b xs, H b = some (.tup xs) → H' b = some (.tup xs)
/-- all but p stands -/
def Kp (p : Addr) (H H' : Hp) : Prop := ∀ b o, b ≠ p → H b = some o → H' b = some o
section
variable {H H1 H2 : Hp} {a p : Addr} {o : HO} {xs ys : List V}
theorem Gr.refl (H : Hp) : Gr H H := fun _ _ h => h
theorem Gr.trans (x : Gr H H1) (y : Gr H1 H2) : Gr H H2 := fun b xs h => y b xs (x b xs h)
theorem gr_same (s : Same H H1) : Gr H H1 := fun b xs h => s b _ h
theorem gr_kp (s : Kp p H H1) (hp : H p = some (.lst xs)) : Gr H H1 := fun b ys h => s b _ (ne_of h hp (fun q => nomatch q)) h
theorem same_new (h : H a = none) : Same H (upd H a o) := fun b u e => by rw [upd_ne (ne_of_none e h)]; exact e
theorem gr_new (h : H a = none) : Gr H (upd H a o) := gr_same (same_new h)
theorem gr_lst (h : H a = some (.lst xs)) : Gr H (upd H a o) := fun b ys e => by rw [upd_ne (ne_of e h (fun q => nomatch q))]; exact e
theorem gr_dK {kvs : List (Key × V)} (h : H a = some (.dK kvs)) : Gr H (upd H a o) := fun b ys e => by rw [upd_ne (ne_of e h (fun q => nomatch q))]; exact e
theorem Kp.refl (p : Addr) (H : Hp) : Kp p H H := fun _ _ _ h => h
theorem Kp.trans (x : Kp p H H1) (y : Kp p H1 H2) : Kp p H H2 := fun b o n h => y b o n (x b o n h)
theorem kp_same (s : Same H H1) : Kp p H H1 := fun b o _ h => s b o h
/-- what is laid behind H may change again -/
theorem same_again (s : Same H H1) (h : H a = none) : Same H (upd H1 a o) := fun b u e => by rw [upd_ne (ne_of_none e h)]; exact s b u e
theorem kp_again (s : Kp p H H1) (h : H a = none) : Kp p H (upd H1 a o) := fun b u n e => by rw [upd_ne (ne_of_none e h)]; exact s b u n e
theorem kp_self (s : Kp p H H1) : Kp p H (upd H1 p o) := fun b u n e => by rw [upd_ne n]; exact s b u n e
theorem Kp.free (s : Kp p H H1) (hp : H p = some (.lst xs)) (h : H1 a = none) (n : a ≠ p) : H a = none := by
  cases e : H a with
  | none => rfl
  | some o => rw [s a o n e] at h; cases h
end
/-! ### what stands at an address: each of a list -/
def Each {α : Type} (R : V → α → Prop) (vs : List V) (xs : List α) : Prop := vs.length = xs.length ∧ ∀ (i : Nat) (v : V) (x : α), vs[i]? = some v → xs[i]? = some x → R v x
section
variable {α : Type} {R R' : V → α → Prop} {vs : List V} {xs : List α}
theorem Each.nil : Each R [] ([] : List α) := ⟨rfl, fun i v x h => by simp at h⟩
theorem Each.mono (h : Each R vs xs) (f : ∀ v x, R v x → R' v x) : Each R' vs xs := ⟨h.1, fun i v x a b => f v x (h.2 i v x a b)⟩
theorem Each.push {v : V} {x : α} (h : Each R vs xs) (r : R v x) : Each R (vs ++ [v]) (xs ++ [x]) := by
  refine ⟨by simp [h.1], fun i u y hu hy => ?_⟩
  by_cases q : i < vs.length
  · rw [List.getElem?_append_left q] at hu
    rw [List.getElem?_append_left (by rw [← h.1]; exact q)] at hy
    exact h.2 i u y hu hy
  · rw [List.getElem?_append_right (by omega)] at hu
    rw [List.getElem?_append_right (by rw [← h.1]; omega)] at hy
    rw [h.1] at hu
    cases e : i - xs.length with
    | zero => rw [e] at hu hy; cases hu; cases hy; exact r
    | succ n => rw [e] at hu; simp at hu
theorem Each.cons {v : V} {x : α} (r : R v x) (h : Each R vs xs) : Each R (v :: vs) (x :: xs) := by
  refine ⟨by simp [h.1], fun i u y hu hy => ?_⟩
  cases i with
  | zero => simp at hu hy; subst hu hy; exact r
  | succ i => simp at hu hy; exact h.2 i u y hu hy
theorem Each.get {i : Nat} {v : V} (h : Each R vs xs) (hv : vs[i]? = some v) : ∃ x, xs[i]? = some x ∧ R v x := by
  have q : i < xs.length := by rw [← h.1]; exact (List.getElem?_eq_some_iff.mp hv).1
  exact ⟨xs[i], List.getElem?_eq_getElem q, h.2 i v _ hv (List.getElem?_eq_getElem q)⟩
theorem Each.at {i : Nat} {x : α} (h : Each R vs xs) (hx : xs[i]? = some x) : ∃ v, vs[i]? = some v ∧ R v x := by
  have q : i < vs.length := by rw [h.1]; exact (List.getElem?_eq_some_iff.mp hx).1
  exact ⟨vs[i], List.getElem?_eq_getElem q, h.2 i _ x (List.getElem?_eq_getElem q) hx⟩
theorem Each.take (n : Nat) (h : Each R vs xs) : Each R (vs.take n) (xs.take n) := by
  refine ⟨by simp [h.1], fun i u y hu hy => ?_⟩
  rw [List.getElem?_take] at hu hy
  split at hu
  · rename_i q
    rw [if_pos q] at hy
    exact h.2 i u y hu hy
  · cases hu
theorem Each.set {i : Nat} {v : V} {x : α} (h : Each R vs xs) (r : R v x) : Each R (vs.set i v) (xs.set i x) := by
  refine ⟨by simp [h.1], fun j u y hu hy => ?_⟩
  by_cases q : i = j
  · subst q
    have l1 : i < vs.length := by have := (List.getElem?_eq_some_iff.mp hu).1; simpa using this
    rw [List.getElem?_set_self l1] at hu
    rw [List.getElem?_set_self (by rw [← h.1]; exact l1)] at hy
    cases hu; cases hy; exact r
  · rw [List.getElem?_set_ne q] at hu hy
    exact h.2 j u y hu hy
end
/-! ### rows, pairs of rows, records -/
def kw : Bool → Str := fun k => if k = true then "T" else "S"
theorem kw_inj {a b : Bool} (h : kw a = kw b) : a = b := by
  revert h; revert a b; decide +kernel
def RowAt (H : Hp) (v : V) (xs : List Str) : Prop := ∃ a, v = .ref a ∧ H a = some (.tup (xs.map V.str))
def PairAt (H : Hp) (v : V) (d : Dbl Str) : Prop := ∃ a x y, v = .ref a ∧ H a = some (.tup [x, y]) ∧ RowAt H x d.1 ∧ RowAt H y d.2
def RecAt (H : Hp) (v : V) (q : Rec Str) : Prop := ∃ a x y, v = .ref a ∧ H a = some (.tup [x, .str (kw q.2.1), y]) ∧ RowAt H x q.1 ∧ RowAt H y q.2.2
section
variable {H H' : Hp} {v : V}
theorem RowAt.gr {xs : List Str} (h : RowAt H v xs) (g : Gr H H') : RowAt H' v xs := by
  obtain ⟨a, e, h⟩ := h
  exact ⟨a, e, g _ _ h⟩
theorem PairAt.gr {d : Dbl Str} (h : PairAt H v d) (g : Gr H H') : PairAt H' v d := by
  obtain ⟨a, x, y, e, h, r1, r2⟩ := h
  exact ⟨a, x, y, e, g _ _ h, r1.gr g, r2.gr g⟩
theorem RecAt.gr {q : Rec Str} (h : RecAt H v q) (g : Gr H H') : RecAt H' v q := by
  obtain ⟨a, x, y, e, h, r1, r2⟩ := h
  exact ⟨a, x, y, e, g _ _ h, r1.gr g, r2.gr g⟩
end
theorem goT {c : Bool} {A B : Prop} (e : c = true) (h : A) : if c = true then A else B := by rw [if_pos e]; exact h
theorem goF {c : Bool} {A B : Prop} (e : c = false) (h : B) : if c = true then A else B := by rw [e, if_neg Bool.false_ne_true]; exact h
theorem goB {c : Bool} {A B : Prop} (h1 : c = true → A) (h2 : c = false → B) : if c = true then A else B := by
  cases c with
  | true => exact goT rfl (h1 rfl)
  | false => exact goF rfl (h2 rfl)
/-- up to 1000 is a small size -/
theorem sz {n : Nat} (h : n ≤ 1000) : n ≤ sizeLine := Nat.le_trans h (by decide)
theorem szl {n : Nat} (h : n ≤ 1000) : n < sizeLine := Nat.lt_of_le_of_lt h (by decide)
/-! ### names -/
def Letters : Str := "abcdefghijklmnopqrstuvwxyz"
def NameOk (x : Str) : Prop := 1 ≤ x.length ∧ x.length ≤ 6 ∧ ∀ c ∈ x.cps.toList, c ∈ Letters.cps.toList
structure RowOk (xs : List Str) : Prop where
  two : 2 ≤ xs.length
  most : xs.length ≤ 12
  nd : xs.Nodup
  ok : ∀ x ∈ xs, NameOk x
theorem RowOk.perm {xs ys : List Str} (h : RowOk xs) (p : ys.Perm xs) : RowOk ys :=
  ⟨by rw [p.length_eq]; exact h.two, by rw [p.length_eq]; exact h.most, p.nodup_iff.mpr h.nd, fun x hx => h.ok x (p.subset hx)⟩
structure DblOk (names : List Str) (d : Dbl Str) : Prop where
  fst : d.1.Perm names
  snd : d.2.Perm names
theorem kw_two (k : Bool) : kw k = "S" ∨ kw k = "T" := by cases k; exact .inl rfl; exact .inr rfl
end LP

set_option Elab.async false
set_option linter.all false
set_option maxRecDepth 100000
set_option maxHeartbeats 4000000
/-! LpD1: is_kind, is_name, is_name_row, is_double, is_record. -/
namespace LP
open PySem PySem.Spec PyProof.Rows L2
section
variable {P : Program} {w : World} {K : PySem.W.Frag} {mg : Str → Option Value} {base : Heap} {aK : Addr}
def spIsKind : Sp := fun vs H Q _ => ∃ k : Bool, vs = [.str (kw k)] ∧ Q (.bl true) H
theorem ca_is_kind (T : Tx K mg aK) (D : Df K mg "is_kind" s_is_kind) : Ca P w K mg base 1 "is_kind" spIsKind := by
  refine ca_mk D sc_is_kind (fun _ _ _ _ _ _ us hl => match us, hl with | [_], _ => rfl) (fun vs H Q E h => ?_) (fun f cdv A outer s H vs Q E hr h => ?_)
  · obtain ⟨k, rfl, _⟩ := h
    rfl
  · obtain ⟨k, rfl, q⟩ := h
    refine ⟨_, (pss_one (ps_ret (pe_and (pe_callB call_isi (by rfl) T.b_isinstance (by decide +kernel) (pa_cons (pv 0) (pa_cons (pe_bltn (by rfl) T.b_str (by decide +kernel) (v := .ty "str") rfl) pa_nil))) (pe_one (pe_cmpR op_in_seq (pv 0) (pe_con rfl T.g_KINDS) (by rfl)))))), ?_⟩
    refine ⟨_, rfl, _, _, _, _, true, rfl, .ty "str", .base (.str _), kit_ty (by decide +kernel), _, rfl, iteT ?_⟩
    refine ⟨_, rfl, _, _, rfl, .inr (T.seq H), rfl, rfl, ?_⟩
    have e : inV (V.str (kw k)) [V.str "S", V.str "T"] = true := by cases k <;> decide +kernel
    rw [e]
    exact q

def spIsName : Sp := fun vs H Q _ => ∃ x : Str, vs = [.str x] ∧ NameOk x ∧ ∀ H', Same H H' → Q (.bl true) H'
theorem ca_is_name (T : Tx K mg aK) (D : Df K mg "is_name" s_is_name) : Ca P w K mg base 1 "is_name" spIsName := by
  refine ca_mk D sc_is_name (fun _ _ _ _ _ _ us hl => match us, hl with | [_], _ => rfl) (fun vs H Q E h => ?_) (fun f cdv A outer s H vs Q E hr h => ?_)
  · obtain ⟨x, rfl, _⟩ := h
    rfl
  · obtain ⟨x, rfl, ok, q⟩ := h
    refine ⟨_, (pss_cons (ps_if (PW.pt (pw_or (pt_not (pt_val (pe_callB call_isi (by rfl) T.b_isinstance (by decide +kernel) (pa_cons (pv 0) (pa_cons (pe_bltn (by rfl) T.b_str (by decide +kernel) (v := .ty "str") rfl) pa_nil))))) (pw_or1 (pt_not (pt_chain op_le op_le pe_int (pe_callB call_len_str (by rfl) T.b_len (by decide +kernel) (pa_cons (pv 0) pa_nil)) (pe_con rfl T.g_MOST_LETTERS_OF_NAME)))))) (pss_one (ps_ret pe_bl)) pss_nil)
    (pss_one (ps_ret (pe_callB (cr_all rfl) (by rfl) T.b_all (by decide +kernel) (pa_cons (pe_lc (own := [("letter", 1)]) (g := gName 1) (tt := tYes) rfl sc_is_name.nd (pi_str (pv 0)) (blkOk_by (N := ["value", "letter"]) (sc := defScope s_is_name) (by decide +kernel)) (fun _ _ _ _ _ => (pg_name (i := 1) sc_is_name.nd rfl (.inl rfl))) (fun _ _ _ _ _ => pts_nil) (fun _ _ _ _ _ => (pe_cmpR op_in_sign (pv 1) (pe_con rfl T.g_LETTERS) (by rfl)))) pa_nil))))), ?_⟩
    refine ⟨_, rfl, _, _, _, _, true, rfl, .ty "str", .base (.str _), kit_ty (by decide +kernel), _, rfl, ?_⟩
    refine iteF ⟨_, rfl, _, rfl, sz (by have := ok.2.1; omega), _, _, rfl, rfl, _, rfl, goT (decide_eq_true (by have := ok.1; omega)) ?_⟩
    refine ⟨_, _, rfl, rfl, _, rfl, ?_⟩
    refine goF (by rw [decide_eq_true (show ((x.length : Nat) : Int) ≤ 6 by have := ok.2.1; omega)]; rfl) ?_
    refine ⟨_, rfl, _, rfl, fun L hL => ?_⟩
    refine lc_it (n := x.cps.size) walk_str (fun i H1 => ∃ bs : List Bool, Same H H1 ∧ H1 L = some (.lst (bs.map V.bl)) ∧ bs.length = i ∧ bs.all id = true) ⟨[], same_new hL, upd_same, rfl, rfl⟩ (fun _ _ _ _ => trivial) ?_ ?_
    · rintro i y H1 H2 hi ⟨bs, s1, hl, len, all⟩ ⟨rfl, c, hc, rfl⟩
      have hm : c ∈ Letters.cps.toList := ok.2.2 c (by rw [Array.mem_toList_iff]; exact Array.mem_of_getElem? hc)
      refine ⟨rfl, _, rfl, _, _, rfl, rfl, _, hl, szl (by rw [List.length_map, len]; have h6 : x.cps.size ≤ 6 := ok.2.1; omega), bs ++ [decide (c ∈ Letters.cps.toList)], same_again s1 hL, ?_, by simp [len], ?_⟩
      · rw [upd_same, List.map_append]; rfl
      · rw [List.all_append, all, decide_eq_true hm]; rfl
    · rintro H1 ⟨bs, s1, hl, len, all⟩
      refine ⟨_, bs, rfl, SqL.of hl, ?_⟩
      rw [all]
      exact q _ s1

def spIsNameRow : Sp := fun vs H Q _ => ∃ (v : V) (xs : List Str), vs = [v] ∧ RowAt H v xs ∧ RowOk xs ∧ ∀ H', Same H H' → Q (.bl true) H'
theorem ca_is_name_row (T : Tx K mg aK) (D : Df K mg "is_name_row" s_is_name_row) (c_is_name : Ca P w K mg base 1 "is_name" spIsName) : Ca P w K mg base 2 "is_name_row" spIsNameRow := by
  refine ca_mk D sc_is_name_row (fun _ _ _ _ _ _ us hl => match us, hl with | [_], _ => rfl) (fun vs H Q E h => ?_) (fun f cdv A outer s H vs Q E hr h => ?_)
  · obtain ⟨x, _, rfl, _⟩ := h
    rfl
  · obtain ⟨v, xs, rfl, ⟨a, rfl, ha⟩, ok, q⟩ := h
    have two := ok.two
    have most := ok.most
    refine ⟨_, (pss_cons (ps_if (PW.pt (pw_or (pt_not (pt_val (pe_callB call_isi (by rfl) T.b_isinstance (by decide +kernel) (pa_cons (pv 0) (pa_cons (pe_bltn (by rfl) T.b_tuple (by decide +kernel) (v := .ty "tuple") rfl) pa_nil))))) (pw_or1 (pt_not (pt_chain op_le op_le pe_int (pe_callB call_len_seq (by rfl) T.b_len (by decide +kernel) (pa_cons (pv 0) pa_nil)) (pe_con rfl T.g_MOST_PEOPLE)))))) (pss_one (ps_ret pe_bl)) pss_nil)
    (pss_one (ps_ret (pe_and (pe_callB (cr_all rfl) (by rfl) T.b_all (by decide +kernel) (pa_cons (pe_lc (own := [("name", 1)]) (g := gName 1) (tt := tYes) rfl sc_is_name_row.nd (pi_tup (pv 0)) (blkOk_by (N := ["value", "name"]) (sc := defScope s_is_name_row) (by decide +kernel)) (fun _ _ _ _ _ => (pg_name (i := 1) sc_is_name_row.nd rfl (.inl rfl))) (fun _ _ _ _ _ => pts_nil) (fun _ _ _ _ _ => (pe_ca c_is_name hr (by decide) rfl (pa_cons (pv 1) pa_nil)))) pa_nil)) (pe_one (pe_cmpR op_eq (pe_lenNd rfl (by rfl) T.b_len (by rfl) T.b_set (pv 0)) (pe_callB call_len_seq (by rfl) T.b_len (by decide +kernel) (pa_cons (pv 0) pa_nil)) (nomark _))))))), ?_⟩
    refine ⟨_, rfl, _, _, _, _, true, rfl, .ty "tuple", .base (.tup ha), kit_ty (by decide +kernel), _, rfl, ?_⟩
    refine iteF ⟨_, rfl, _, _, rfl, .inr (SqT.of ha), _, _, rfl, rfl, _, rfl, goT (decide_eq_true (by rw [List.length_map]; omega)) ?_⟩
    refine ⟨_, _, rfl, rfl, _, rfl, ?_⟩
    refine goF (by rw [decide_eq_true (show (((xs.map V.str).length : Nat) : Int) ≤ 12 by rw [List.length_map]; omega)]; rfl) ?_
    refine ⟨_, rfl, a, rfl, ⟨_, SqT.of ha⟩, fun L hL => ?_⟩
    refine lc_it (n := (xs.map V.str).length) (walk_tup (xs := xs.map V.str)) (fun i H1 => ∃ bs : List Bool, Same H H1 ∧ H1 L = some (.lst (bs.map V.bl)) ∧ bs.length = i ∧ bs.all id = true) ⟨[], same_new hL, upd_same, rfl, rfl⟩
      (fun i H1 _ ⟨_, s1, _⟩ => SqT.of (s1 _ _ ha)) ?_ ?_
    · rintro i y H1 H2 hi ⟨bs, s1, hl, len, all⟩ ⟨rfl, hy⟩
      rw [List.getElem?_map] at hy
      obtain ⟨x, hx, rfl⟩ := Option.map_eq_some_iff.mp hy
      rw [List.length_map] at hi
      refine ⟨rfl, _, rfl, x, rfl, ok.ok x (List.mem_of_getElem? hx), fun H3 s3 => ⟨_, s3 _ _ hl, szl (by rw [List.length_map, len]; omega), bs ++ [true], same_again (s1.trans s3) hL, ?_, by simp [len], ?_⟩⟩
      · rw [upd_same, List.map_append]; rfl
      · rw [List.all_append, all]; rfl
    · rintro H1 ⟨bs, s1, hl, len, all⟩
      refine ⟨_, bs, rfl, SqL.of hl, _, rfl, goT all ?_⟩
      exact ⟨_, rfl, a, xs, rfl, SqT.of (s1 _ _ ha), ok.nd, by omega, _, rfl, a, _, rfl, .inr (SqT.of (s1 _ _ ha)), rfl, by rw [List.length_map, decide_eq_true rfl]; exact q _ s1⟩

/-! ### sorted texts -/
def LeS (a b : Str) : Prop := ¬ (b.cps.toList < a.cps.toList)
theorem leS_trans {a b c : Str} (h1 : LeS a b) (h2 : LeS b c) : LeS a c := by
  have h1 : a.cps.toList ≤ b.cps.toList := h1
  have h2 : b.cps.toList ≤ c.cps.toList := h2
  exact List.le_trans h1 h2
theorem leS_anti {a b : Str} (h1 : LeS a b) (h2 : LeS b a) : a = b := by
  have e : a.cps.toList = b.cps.toList := List.le_antisymm (as := a.cps.toList) (bs := b.cps.toList) h1 h2
  obtain ⟨x⟩ := a
  obtain ⟨y⟩ := b
  exact congrArg Str.mk (Array.toList_inj.mp e)
theorem rising_all : ∀ (l : List Str) (p : Str), risingS p l = true → (∀ x ∈ l, LeS p x) ∧ l.Pairwise LeS
  | [], p, _ => ⟨fun _ h => (nomatch h), .nil⟩
  | x :: r, p, h => by
    have h : (!ltCps x.cps.toList p.cps.toList && risingS x r) = true := h
    rw [Bool.and_eq_true] at h
    obtain ⟨a, b⟩ := rising_all r x h.2
    have px : LeS p x := by
      have q := h.1
      rw [PyProof.Rows.ltCps_eq] at q
      simpa [LeS] using q
    refine ⟨fun y hy => ?_, List.pairwise_cons.mpr ⟨a, b⟩⟩
    rcases List.mem_cons.mp hy with rfl | hy
    · exact px
    · exact leS_trans px (a y hy)
theorem sorted_same {l m : List Str} (h1 : sortedS l = true) (h2 : sortedS m = true) (p : l.Perm m) : l = m := by
  have pw : ∀ {l : List Str}, sortedS l = true → l.Pairwise LeS := fun {l} h => by
    cases l with
    | nil => exact .nil
    | cons x r =>
      obtain ⟨a, b⟩ := rising_all r x h
      exact List.pairwise_cons.mpr ⟨a, b⟩
  exact List.Perm.eq_of_pairwise (fun a b _ _ h k => leS_anti h k) (pw h1) (pw h2) p
theorem nameOk_ok {x : Str} (h : NameOk x) : OkS x := by
  have big : ∀ c ∈ Letters.cps.toList, c < 1114112 := by decide +kernel
  show x.cps.all (· < 1114112) = true
  rw [← Array.all_toList, List.all_eq_true]
  exact fun c hc => decide_eq_true (big c (h.2.2 c hc))

def spIsDouble : Sp := fun vs H Q _ => ∃ (v : V) (d : Dbl Str) (names : List Str), vs = [v] ∧ PairAt H v d ∧ RowOk names ∧ DblOk names d ∧ ∀ H', Same H H' → Q (.bl true) H'
theorem ca_is_double (T : Tx K mg aK) (D : Df K mg "is_double" s_is_double) (c_is_name_row : Ca P w K mg base 2 "is_name_row" spIsNameRow) : Ca P w K mg base 3 "is_double" spIsDouble := by
  refine ca_mk D sc_is_double (fun _ _ _ _ _ _ us hl => match us, hl with | [_], _ => rfl) (fun vs H Q E h => ?_) (fun f cdv A outer s H vs Q E hr h => ?_)
  · obtain ⟨x, _, _, rfl, _⟩ := h
    rfl
  · obtain ⟨v, ⟨d1, d2⟩, names, rfl, ⟨a, x, y, rfl, ha, hx, hy⟩, ok, dok, q⟩ := h
    have ok1 : RowOk d1 := ok.perm dok.fst
    have ok2 : RowOk d2 := ok.perm dok.snd
    have m1 := ok1.most
    have m2 := ok2.most
    refine ⟨_, (pss_cons (ps_if (PW.pt (pw_or (pt_not (pt_val (pe_callB call_isi (by rfl) T.b_isinstance (by decide +kernel) (pa_cons (pv 0) (pa_cons (pe_bltn (by rfl) T.b_tuple (by decide +kernel) (v := .ty "tuple") rfl) pa_nil))))) (pw_or (pt_cmpR op_ne (pe_callB call_len_seq (by rfl) T.b_len (by decide +kernel) (pa_cons (pv 0) pa_nil)) pe_int (nomark _)) (pw_or1 (pt_not (pt_val (pe_callB (cr_all rfl) (by rfl) T.b_all (by decide +kernel) (pa_cons (pe_lc (own := [("row", 1)]) (g := gName 1) (tt := tYes) rfl sc_is_double.nd (pi_tup (pv 0)) (blkOk_by (N := ["value", "row"]) (sc := defScope s_is_double) (by decide +kernel)) (fun _ _ _ _ _ => (pg_name (i := 1) sc_is_double.nd rfl (.inl rfl))) (fun _ _ _ _ _ => pts_nil) (fun _ _ _ _ _ => (pe_ca c_is_name_row hr (by decide) rfl (pa_cons (pv 1) pa_nil)))) pa_nil)))))))) (pss_one (ps_ret pe_bl)) pss_nil)
    (pss_one (ps_ret (pe_cmpR (op_eqL hr) (pe_callB cr_sortedTS (by rfl) T.b_sorted (by decide +kernel) (pa_cons (pe_ix ix_tup (pv 0) pe_int (fun _ _ => rfl)) pa_nil)) (pe_callB cr_sortedTS (by rfl) T.b_sorted (by decide +kernel) (pa_cons (pe_ix ix_tup (pv 0) pe_int (fun _ _ => rfl)) pa_nil)) (nomark _))))), ?_⟩
    refine ⟨_, rfl, _, _, _, _, true, rfl, .ty "tuple", .base (.tup ha), kit_ty (by decide +kernel), _, rfl, ?_⟩
    refine iteF ⟨_, rfl, a, _, rfl, .inr (SqT.of ha), rfl, _, rfl, ?_⟩
    refine goF rfl ?_
    refine ⟨_, rfl, a, rfl, ⟨_, SqT.of ha⟩, fun L hL => ?_⟩
    refine lc_it (n := 2) (walk_tup (xs := [x, y])) (fun i H1 => ∃ bs : List Bool, Same H H1 ∧ H1 L = some (.lst (bs.map V.bl)) ∧ bs.length = i ∧ bs.all id = true) ⟨[], same_new hL, upd_same, rfl, rfl⟩
      (fun i H1 _ ⟨_, s1, _⟩ => SqT.of (s1 _ _ ha)) ?_ ?_
    · rintro i z H1 H2 hi ⟨bs, s1, hl, len, all⟩ ⟨rfl, hz⟩
      have row : ∃ xs, RowAt H z xs ∧ RowOk xs := by
        match i, hi with
        | 0, _ => cases hz; exact ⟨d1, hx, ok1⟩
        | 1, _ => cases hz; exact ⟨d2, hy, ok2⟩
      obtain ⟨xs, hrow, rok⟩ := row
      refine ⟨rfl, _, rfl, z, xs, rfl, hrow.gr (gr_same s1), rok, fun H3 s3 => ⟨_, s3 _ _ hl, szl (by rw [List.length_map, len]; omega), bs ++ [true], same_again (s1.trans s3) hL, ?_, by simp [len], ?_⟩⟩
      · rw [upd_same, List.map_append]; rfl
      · rw [List.all_append, all]; rfl
    · rintro H1 ⟨bs, s1, hl, len, all⟩
      obtain ⟨p1, rfl, hp1⟩ := hx.gr (gr_same s1)
      obtain ⟨p2, rfl, hp2⟩ := hy.gr (gr_same s1)
      refine ⟨_, bs, rfl, SqL.of hl, _, rfl, goF (by rw [all]; rfl) ?_⟩
      refine ⟨_, rfl, a, _, _, _, rfl, rfl, SqT.of (s1 _ _ ha), atI_nat rfl, p1, d1, rfl, SqT.of hp1, by omega, fun ys1 l1 perm1 so1 n1 => ?_⟩
      have g1 := same_new (o := .lst (ys1.map V.str)) n1
      refine ⟨_, rfl, a, _, _, _, rfl, rfl, SqT.of (g1 _ _ (s1 _ _ ha)), atI_nat rfl, p2, d2, rfl, SqT.of (g1 _ _ hp2), by omega, fun ys2 l2 perm2 so2 n2 => ?_⟩
      have g2 := same_new (o := .lst (ys2.map V.str)) n2
      have e : ys1 = ys2 := sorted_same so1 so2 (perm1.trans (dok.fst.trans (dok.snd.symm.trans perm2.symm)))
      refine ⟨l1, l2, ys1, ys2, rfl, rfl, SqL.of (g2 _ _ upd_same), SqL.of upd_same, fun z hz => nameOk_ok (ok1.ok z (perm1.subset hz)), fun z hz => nameOk_ok (ok2.ok z (perm2.subset hz)), ?_⟩
      rw [decide_eq_true e]
      exact q _ (s1.trans (g1.trans g2))

def spIsRecord : Sp := fun vs H Q _ => ∃ (v : V) (r : Rec Str) (names : List Str), vs = [v] ∧ RecAt H v r ∧ RowOk names ∧ DblOk names (r.1, r.2.2) ∧ ∀ H', Same H H' → Q (.bl true) H'
theorem ca_is_record (T : Tx K mg aK) (D : Df K mg "is_record" s_is_record) (c_is_kind : Ca P w K mg base 1 "is_kind" spIsKind) (c_is_double : Ca P w K mg base 3 "is_double" spIsDouble) : Ca P w K mg base 4 "is_record" spIsRecord := by
  refine ca_mk D sc_is_record (fun _ _ _ _ _ _ us hl => match us, hl with | [_], _ => rfl) (fun vs H Q E h => ?_) (fun f cdv A outer s H vs Q E hr h => ?_)
  · obtain ⟨x, _, _, rfl, _⟩ := h
    rfl
  · obtain ⟨v, ⟨d1, k, d2⟩, names, rfl, ⟨a, x, y, rfl, ha, hx, hy⟩, ok, dok, q⟩ := h
    refine ⟨_, (pss_cons (ps_if (PW.pt (pw_or (pt_not (pt_val (pe_callB call_isi (by rfl) T.b_isinstance (by decide +kernel) (pa_cons (pv 0) (pa_cons (pe_bltn (by rfl) T.b_tuple (by decide +kernel) (v := .ty "tuple") rfl) pa_nil))))) (pw_or1 (pt_cmpR op_ne (pe_callB call_len_seq (by rfl) T.b_len (by decide +kernel) (pa_cons (pv 0) pa_nil)) pe_int (nomark _))))) (pss_one (ps_ret pe_bl)) pss_nil)
    (pss_cons (ps_asg (pv 0) (pg_tup rfl (pgs_cons (pg_name (i := 1) sc_is_record.nd rfl (.inl rfl)) (pgs_cons (pg_name (i := 2) sc_is_record.nd rfl (.inl rfl)) (pgs_cons (pg_name (i := 3) sc_is_record.nd rfl (.inl rfl)) pgs_nil)))))
    (pss_one (ps_ret (pe_and (pe_ca c_is_kind hr (by decide) rfl (pa_cons (pv 2) pa_nil)) (pe_one (pe_ca c_is_double hr (by decide) rfl (pa_cons (pe_tup (pa_cons (pv 1) (pa_cons (pv 3) pa_nil))) pa_nil)))))))), ?_⟩
    refine ⟨_, rfl, _, _, _, _, true, rfl, .ty "tuple", .base (.tup ha), kit_ty (by decide +kernel), _, rfl, ?_⟩
    refine iteF ⟨_, rfl, a, _, rfl, .inr (SqT.of ha), rfl, _, rfl, ?_⟩
    refine goF rfl ?_
    refine ⟨_, rfl, a, _, rfl, SqT.of ha, rfl, _, _, rfl, _, _, rfl, _, _, rfl, rfl, ?_⟩
    refine ⟨_, rfl, k, rfl, _, rfl, iteT ?_⟩
    refine ⟨_, rfl, _, rfl, (by show 2 ≤ sizeLine; decide), fun p hp => ?_⟩
    have g := same_new (o := .tup [x, y]) hp
    exact ⟨.ref p, (d1, d2), names, rfl, ⟨p, x, y, rfl, upd_same, hx.gr (gr_same g), hy.gr (gr_same g)⟩, ok, dok, fun H' s' => q _ (g.trans s')⟩
end
end LP

set_option Elab.async false
set_option linter.all false
set_option maxRecDepth 100000
set_option maxHeartbeats 4000000
/-! LpD2: check_names, check_records, compared, comparisons. -/
namespace LP
open PySem PySem.Spec PyProof.Rows L2
/-! ### a def that a local name holds -/
structure CaV (P : Program) (w : World) (K : PySem.W.Frag) (mg : Str → Option Value) (base : Heap) (k : Nat) (f : Addr) (sp : Sp) : Prop where
  ex : ∃ (fd : FuncData) (ps : List Str), FnOk P w K mg base CX0 k f fd ps sp ∧ PySem.W.keepIn K (.ref f) = true ∧ Binds K fd ps []
theorem Ca.v {P : Program} {w : World} {K : PySem.W.Frag} {mg : Str → Option Value} {base : Heap} {k : Nat} {x : Str} {sp : Sp} (c : Ca P w K mg base k x sp) : ∃ f : Addr, mg x = some (.ref f) ∧ CaV P w K mg base k f sp := by
  obtain ⟨f, fd, ps, F, m, kp, b⟩ := c.ex
  exact ⟨f, m, fd, ps, F, kp, b⟩
section
variable {X : Cx} {k j i : Nat} {f : Addr} {x : Str} {sp : Sp} {p pos : Pos} {e : Expr} {es : List Expr} {t : TA}
def tVf (i : Nat) (f : Addr) (sp : Sp) (t : TA) : TE := fun σ H Q => σ[i]? = some (some (.ref f)) ∧ t σ H fun vs H1 => sp vs H1 Q E0
theorem pe_vf (c : CaV X.prog X.w X.K X.mg X.base k f sp) (hr : Room j X.A) (hk : k ≤ j) (hN : X.N[i]? = some x) (hv : Vis X.env.scope x) (ha : PA X (e :: es) t)
    (hd : (x == ("__debug__" : Str)) = false := by decide) (hcd : (x == ("__classdict__" : Str)) = false := by decide)
    (he : starEach (e :: es) X.env = (false, eval e X.env) :: starEach es X.env := by rfl) (hpl : (backTo pos (starEach es X.env)).any (·.1) = false := by rfl) : PE X (.Call (.Name x p) (e :: es) [] pos) (tVf i f sp t) := by
  obtain ⟨fd, ps, F, kp, b⟩ := c.ex
  refine ⟨fun pins s σ H Q I h => wpAny_Call_Name_kw (thn ((pe_var (pos := p) (i := i) hN hv hd hcd).run pins s σ H (fun v H1 => v = .ref f ∧ H1 = H) I ⟨.ref f, h.1, rfl, rfl⟩) fun u s1 z => ?_)⟩
  obtain ⟨v, H1, I1, r1, rfl, rfl⟩ := z
  cases r1
  refine PySem.W.callWith_K (h₀ := X.base) I1.ok.mod.kin kp (thn (ha.run pos pins s1 σ _ _ I1 h.2) fun us s2 z => ?_) he hpl
  obtain ⟨vs, H2, I2, r, q⟩ := z
  exact ⟨I2.kIn, run_fn F (hr.mono hk) b .nil pass0 I2 r (by rw [List.append_nil]; exact q)⟩
end
section
variable {P : Program} {w : World} {K : PySem.W.Frag} {mg : Str → Option Value} {base : Heap} {aK : Addr}
/-- the first thing of the tuple v is a row of these names -/
def HeadRow (H : Hp) (v : V) (names : List Str) : Prop := ∃ b items x xs, v = .ref b ∧ H b = some (.tup items) ∧ items[0]? = some x ∧ RowAt H x xs ∧ xs.Perm names
theorem HeadRow.gr {H H' : Hp} {v : V} {names : List Str} (h : HeadRow H v names) (g : Gr H H') : HeadRow H' v names := by
  obtain ⟨b, items, x, xs, e, hb, hx, r, p⟩ := h
  exact ⟨b, items, x, xs, e, g _ _ hb, hx, r.gr g, p⟩
def spCheck (f : Addr) (sp : Sp) : Sp := fun vs H Q _ => ∃ (a : Addr) (ys : List V) (names : List Str), vs = [.ref a, .ref f] ∧ H a = some (.tup ys) ∧ 1 ≤ ys.length ∧ ys.length ≤ 20 ∧ RowOk names ∧
  (∀ v ∈ ys, HeadRow H v names) ∧ (∀ v ∈ ys, ∀ H1 (Q1 : VK), Same H H1 → (∀ H2, Same H1 H2 → Q1 (.bl true) H2) → sp [v] H1 Q1 E0) ∧ ∀ H', Same H H' → Q .non H'
theorem ca_check_names (T : Tx K mg aK) (D : Df K mg "check_names" s_check_names) {g : Addr} {sp : Sp} (c : CaV P w K mg base 4 g sp) : Ca P w K mg base 5 "check_names" (spCheck g sp) := by
  refine ca_mk D sc_check_names (fun _ _ _ _ _ _ us hl => match us, hl with | [_, _], _ => rfl) (fun vs H Q E h => ?_) (fun f cdv A outer s H vs Q E hr h => ?_)
  · obtain ⟨_, _, _, rfl, _⟩ := h
    rfl
  · obtain ⟨a, ys, names, rfl, ha, one, most, ok, heads, each, q⟩ := h
    have m12 := ok.most
    refine ⟨_, (pss_cons (ps_if (PW.pt (pw_or (pt_not (pt_val (pe_callB call_isi (by rfl) T.b_isinstance (by decide +kernel) (pa_cons (pv 0) (pa_cons (pe_bltn (by rfl) T.b_tuple (by decide +kernel) (v := .ty "tuple") rfl) pa_nil))))) (pw_or1 (pt_not (pt_chain op_le op_le pe_int (pe_callB call_len_seq (by rfl) T.b_len (by decide +kernel) (pa_cons (pv 0) pa_nil)) (pe_con rfl T.g_MOST_RECORDS)))))) (pss_one ps_never) pss_nil)
    (pss_one (ps_for PassesOwn.never rfl (pi_enumT (by rfl) T.b_enumerate (pa_cons (pv 0) pa_nil)) (pg_tup rfl (pgs_cons (pg_name (i := 2) sc_check_names.nd rfl (.inl rfl)) (pgs_cons (pg_name (i := 3) sc_check_names.nd rfl (.inl rfl)) pgs_nil))) (pss_one (ps_if (PW.pt (pw_or (pt_not (pt_val (pe_vf (i := 1) c hr (by decide) rfl (.inl rfl) (pa_cons (pv 3) pa_nil)))) (pw_or1 (pt_cmpR (op_neL hr) (pe_callB cr_sortedTS (by rfl) T.b_sorted (by decide +kernel) (pa_cons (pe_ix ix_tup (pv 3) pe_int (fun _ _ => rfl)) pa_nil)) (pe_callB cr_sortedTS (by rfl) T.b_sorted (by decide +kernel) (pa_cons (pe_ix ix_tup (pe_ix ix_tup (pv 0) pe_int (fun _ _ => rfl)) pe_int (fun _ _ => rfl)) pa_nil)) (nomark _))))) (pss_one ps_never) pss_nil))))), ?_⟩
    refine ⟨_, rfl, _, _, _, _, true, rfl, .ty "tuple", .base (.tup ha), kit_ty (by decide +kernel), _, rfl, ?_⟩
    refine iteF ⟨_, rfl, a, _, rfl, .inr (SqT.of ha), _, _, rfl, rfl, _, rfl, goT (decide_eq_true (by omega)) ?_⟩
    refine ⟨_, _, rfl, rfl, _, rfl, ?_⟩
    refine goF (by rw [decide_eq_true (show ((ys.length : Nat) : Int) ≤ 20 by omega)]; rfl) ?_
    obtain ⟨y0, hy0⟩ : ∃ y0, ys[0]? = some y0 := ⟨ys[0], List.getElem?_eq_getElem (by omega)⟩
    refine ⟨_, rfl, a, ys, rfl, SqT.of ha, for_it (n := ys.length) (walk_enumT (xs := ys)) (fun i σ H1 => ∃ u v : Option V, σ = [some (.ref a), some (.ref g), u, v] ∧ Same H H1) ⟨none, none, rfl, Same.refl H⟩ (fun i σ H1 _ ⟨_, _, _, s1⟩ => SqT.of (s1 _ _ ha)) ?_ ?_⟩
    · rintro i x σ H1 H2 hi ⟨u, v, rfl, s1⟩ ⟨t, _, y, rfl, ht, rfl, e1, hy⟩
      cases e1
      have s2 := s1.trans (same_new (o := .tup [.int (i : Nat), y]) ht)
      have my := List.mem_of_getElem? hy
      refine ⟨t, _, rfl, SqT.of upd_same, rfl, _, _, rfl, _, _, rfl, rfl, ?_⟩
      refine ⟨rfl, _, rfl, each y my _ _ s2 fun H3 s3 => ⟨_, rfl, ?_⟩⟩
      have s13 := s2.trans s3
      refine iteF ?_
      obtain ⟨b, items, z, xs, rfl, hb, hz, ⟨p1, rfl, hp1⟩, pm1⟩ := (heads y my).gr (gr_same s13)
      obtain ⟨b0, items0, z0, xs0, rfl, hb0, hz0, ⟨p0, rfl, hp0⟩, pm0⟩ := (heads y0 (List.mem_of_getElem? hy0)).gr (gr_same s13)
      have ok1 := ok.perm pm1
      have ok0 := ok.perm pm0
      have l1 := ok1.most
      have l0 := ok0.most
      refine ⟨_, rfl, b, _, _, _, rfl, rfl, SqT.of hb, atI_nat hz, p1, xs, rfl, SqT.of hp1, by omega, fun ys1 q1 perm1 so1 n1 => ?_⟩
      have g1 := same_new (o := .lst (ys1.map V.str)) n1
      refine ⟨_, rfl, a, _, _, _, rfl, rfl, SqT.of (g1 _ _ (s13 _ _ ha)), atI_nat hy0, b0, _, _, _, rfl, rfl, SqT.of (g1 _ _ hb0), atI_nat hz0, p0, xs0, rfl, SqT.of (g1 _ _ hp0), by omega, fun ys2 q2 perm2 so2 n2 => ?_⟩
      have g2 := same_new (o := .lst (ys2.map V.str)) n2
      have e : ys1 = ys2 := sorted_same so1 so2 (perm1.trans (pm1.trans (pm0.symm.trans perm2.symm)))
      refine ⟨q1, q2, ys1, ys2, rfl, rfl, SqL.of (g2 _ _ upd_same), SqL.of upd_same, fun z hz => nameOk_ok (ok1.ok z (perm1.subset hz)), fun z hz => nameOk_ok (ok0.ok z (perm2.subset hz)), _, rfl, ?_⟩
      refine goF (by rw [decide_eq_true e]; rfl) ?_
      exact ⟨_, _, rfl, s13.trans (g1.trans g2)⟩
    · rintro σ H1 ⟨u, v, rfl, s1⟩
      exact q _ s1

/-! ### records -/
structure RecsOk (names : List Str) (rs : List (Rec Str)) : Prop where
  one : 1 ≤ rs.length
  most : rs.length ≤ 20
  row : RowOk names
  ok : ∀ q ∈ rs, DblOk names (q.1, q.2.2)
def spCheckRecs : Sp := fun vs H Q _ => ∃ (a : Addr) (ys : List V) (rs : List (Rec Str)) (names : List Str), vs = [.ref a] ∧ H a = some (.tup ys) ∧ Each (RecAt H) ys rs ∧ RecsOk names rs ∧ ∀ H', Same H H' → Q .non H'
theorem ca_check_records (D : Df K mg "check_records" s_check_records) {g : Addr} (m : mg "is_record" = some (.ref g)) (c_check_names : Ca P w K mg base 5 "check_names" (spCheck g spIsRecord)) : Ca P w K mg base 6 "check_records" spCheckRecs := by
  refine ca_mk D sc_check_records (fun _ _ _ _ _ _ us hl => match us, hl with | [_], _ => rfl) (fun vs H Q E h => ?_) (fun f cdv A outer s H vs Q E hr h => ?_)
  · obtain ⟨_, _, _, _, rfl, _⟩ := h
    rfl
  · obtain ⟨a, ys, rs, names, rfl, ha, each, ok, q⟩ := h
    refine ⟨_, (pss_one (ps_expr (pe_ca c_check_names hr (by decide) rfl (pa_cons (pv 0) (pa_cons (pe_con (v := .ref g) rfl ⟨_, m, rfl⟩) pa_nil))))), ?_⟩
    refine ⟨_, rfl, a, ys, names, rfl, ha, by rw [each.1]; exact ok.one, by rw [each.1]; exact ok.most, ok.row, fun v hv => ?_, fun v hv H1 Q1 s1 q1 => ?_, fun H' s' => q _ s'⟩
    · obtain ⟨i, hi, e⟩ := List.mem_iff_getElem.mp hv
      obtain ⟨r, hr, b, x, y, rfl, hb, hx, hy⟩ := each.get (i := i) (v := v) (by rw [← e]; exact List.getElem?_eq_getElem hi)
      exact ⟨b, _, x, r.1, rfl, hb, rfl, hx, (ok.ok r (List.mem_of_getElem? hr)).fst⟩
    · obtain ⟨i, hi, e⟩ := List.mem_iff_getElem.mp hv
      obtain ⟨r, hr, ra⟩ := each.get (i := i) (v := v) (by rw [← e]; exact List.getElem?_eq_getElem hi)
      exact ⟨v, r, names, rfl, ra.gr (gr_same s1), ok.row, ok.ok r (List.mem_of_getElem? hr), q1⟩

theorem kw_is (k : Bool) : decide (V.str (kw k) = V.str "T") = k := by cases k <;> decide +kernel
theorem str_is (a b : Str) : decide (V.str a = V.str b) = decide (a = b) := by
  by_cases e : a = b
  · rw [e, decide_eq_true rfl, decide_eq_true rfl]
  · rw [decide_eq_false e, decide_eq_false fun q => e (V.str.inj q)]
/-- a pair of two texts -/
def TwoAt (H : Hp) (v : V) (d : Str × Str) : Prop := ∃ t, v = .ref t ∧ H t = some (.tup [.str d.1, .str d.2])
theorem TwoAt.gr {H H' : Hp} {v : V} {d : Str × Str} (h : TwoAt H v d) (g : Gr H H') : TwoAt H' v d := by
  obtain ⟨t, e, h⟩ := h
  exact ⟨t, e, g _ _ h⟩
def spCompared : Sp := fun vs H Q _ => ∃ (v : V) (r : Rec Str) (names : List Str), vs = [v] ∧ RecAt H v r ∧ RowOk names ∧ DblOk names (r.1, r.2.2) ∧
  (cmpRow r.2.1 r.1 r.2.2 = none → ∀ H', Same H H' → Q .non H') ∧
  ∀ out, cmpRow r.2.1 r.1 r.2.2 = some out → ∀ H' p ys, Same H H' → H p = none → H' p = some (.lst ys) → Each (TwoAt H') ys out → Q (.ref p) H'
theorem ca_compared (T : Tx K mg aK) (D : Df K mg "compared" s_compared) : Ca P w K mg base 1 "compared" spCompared := by
  refine ca_mk D sc_compared (fun _ _ _ _ _ _ us hl => match us, hl with | [_], _ => rfl) (fun vs H Q E h => ?_) (fun f cdv A outer s H vs Q E hr h => ?_)
  · obtain ⟨_, _, _, rfl, _⟩ := h
    rfl
  · obtain ⟨v, ⟨row, k, late⟩, names, rfl, ⟨a, _, _, rfl, ha, ⟨b, rfl, hb⟩, ⟨c, rfl, hc⟩⟩, ok, dok, qn, qs⟩ := h
    have okb := ok.perm dok.fst
    have hm := okb.most
    obtain ⟨s0, ps, rfl⟩ : ∃ s0 ps, row = s0 :: ps := by
      cases row with
      | nil => have := okb.two; simp at this
      | cons s0 ps => exact ⟨s0, ps, rfl⟩
    have hlen : late.length = ps.length + 1 := by rw [(dok.snd.trans dok.fst.symm).length_eq]; rfl
    have hps : ps.length ≤ 11 := by simp at hm; omega
    refine ⟨_, (pss_cons (ps_asg (pv 0) (pg_tup rfl (pgs_cons (pg_name (i := 1) sc_compared.nd rfl (.inl rfl)) (pgs_cons (pg_name (i := 2) sc_compared.nd rfl (.inl rfl)) (pgs_cons (pg_name (i := 3) sc_compared.nd rfl (.inl rfl)) pgs_nil)))))
    (pss_cons (ps_asg (pv 1) (pg_star rfl (pgs_cons (pg_name (i := 4) sc_compared.nd rfl (.inl rfl)) (pgs_cons (pg_name (i := 5) sc_compared.nd rfl (.inl rfl)) pgs_nil))))
    (pss_cons (ps_set (i := 6) sc_compared.nd rfl (.inl rfl) (pe_lst pa_nil))
    (pss_cons (ps_for PassesOwn.never rfl (pi_zipK .l .t (by rfl) T.b_zip (pa_cons (pv 5) (pa_cons (pv 3) pa_nil))) (pg_tup rfl (pgs_cons (pg_name (i := 7) sc_compared.nd rfl (.inl rfl)) (pgs_cons (pg_name (i := 8) sc_compared.nd rfl (.inl rfl)) pgs_nil))) (pss_mid (ps_if (PW.pt (pw_and (pt_cmpR op_ne (pv 8) (pv 7) (nomark _)) (pw_and1 (pt_cmpR op_ne (pv 8) (pv 4) (nomark _))))) (pss_one (ps_ret pe_non)) pss_nil)
    (pss_mid (ps_set (i := 9) sc_compared.nd rfl (.inl rfl) (pe_ifExp (pt_cmpR op_eq (pv 8) (pv 7) (nomark _)) (pv 4) (pv 7)))
    (pss_mid (ps_expr (pe_bm PySem.F.plainAttrs_list PySem.F.slot_list_append PySem.F.type_list_append mt_append (pv 6) (pa_cons (pe_ifExp (pt_cmpR op_eq (pv 2) (pe_con rfl T.g_TALLEST) (nomark _)) (pe_tup (pa_cons (pv 8) (pa_cons (pv 9) pa_nil))) (pe_tup (pa_cons (pv 9) (pa_cons (pv 8) pa_nil)))) pa_nil)))
    (pss_one (ps_set (i := 4) sc_compared.nd rfl (.inl rfl) (pv 9)))))))
    (pss_one (ps_ret (pv 6))))))), ?_⟩
    refine ⟨_, rfl, a, _, rfl, SqT.of ha, rfl, _, _, rfl, _, _, rfl, _, _, rfl, rfl, ?_⟩
    refine ⟨_, rfl, b, V.str s0, ps.map V.str, rfl, SqT.of hb, by rw [List.length_map]; omega, fun d hd => ⟨_, _, rfl, _, _, rfl, rfl, ?_⟩⟩
    have g1 := same_new (o := .lst (ps.map V.str)) hd
    refine ⟨Nat.zero_le _, fun l hl => ?_⟩
    have g2 := same_new (o := .lst []) hl
    have l0 : H l = none := g1.free hl
    have nl : d ≠ l := ne_of_none upd_same hl
    refine ⟨_, rfl, _, rfl, d, c, ps.map V.str, late.map V.str, rfl, SqL.of (g2 _ _ upd_same), SqT.of (g2 _ _ (g1 _ _ hc)),
      for_it (n := ps.length) (walk_zipK (k1 := .l) (k2 := .t) (xs := ps.map V.str) (ys := late.map V.str) (by rw [List.length_map, List.length_map, hlen]; omega))
      (fun i σ H1 => ∃ (st : Str) (u1 u2 u3 : Option V) (ys : List V) (out : List (Str × Str)), σ = [some (.ref a), some (.ref b), some (.str (kw k)), some (.ref c), some (.str st), some (.ref d), some (.ref l), u1, u2, u3] ∧ Same H H1 ∧
        H1 d = some (.lst (ps.map V.str)) ∧ H1 l = some (.lst ys) ∧ Each (TwoAt H1) ys out ∧ out.length = i ∧ cmpF k s0 ps late = (cmpF k st (ps.drop i) (late.drop i)).map (out ++ ·))
      ⟨s0, none, none, none, [], [], rfl, g1.trans g2, g2 _ _ upd_same, upd_same, Each.nil, rfl, by simp⟩ (fun i σ H1 _ ⟨_, _, _, _, _, _, _, s1, e1, _⟩ => ⟨SqL.of e1, SqT.of (s1 _ _ hc)⟩) ?_ ?_⟩
    · rintro i x σ H1 H2 hi ⟨st, u1, u2, u3, ys, out, rfl, s1, hd1, hl1, each, hlo, hcm⟩ ⟨t, x, y, rfl, ht, rfl, hx, hy⟩
      have hx : (ps.map V.str)[i]? = some x := hx
      have hy : (late.map V.str)[i]? = some y := hy
      rw [List.getElem?_map] at hx hy
      obtain ⟨p, hp, rfl⟩ := Option.map_eq_some_iff.mp hx
      obtain ⟨lv, hv, rfl⟩ := Option.map_eq_some_iff.mp hy
      have g3 := same_new (o := .tup [V.str p, V.str lv]) ht
      have dp : ps.drop i = p :: ps.drop (i + 1) := by rw [List.drop_eq_getElem_cons hi]; rw [List.getElem?_eq_getElem hi] at hp; cases hp; rfl
      have hi2 : i < late.length := by omega
      have dl : late.drop i = lv :: late.drop (i + 1) := by rw [List.drop_eq_getElem_cons hi2]; rw [List.getElem?_eq_getElem hi2] at hv; cases hv; rfl
      rw [dp, dl, cmpF_cons] at hcm
      refine ⟨t, _, rfl, SqT.of upd_same, rfl, _, _, rfl, _, _, rfl, rfl, ?_⟩
      have out3 : ys.length ≤ 11 := by rw [each.1, hlo]; omega
      refine ⟨fun σ' H' => σ' = [some (.ref a), some (.ref b), some (.str (kw k)), some (.ref c), some (.str st), some (.ref d), some (.ref l), some (.str p), some (.str lv), u3] ∧ H' = upd H1 t (.tup [V.str p, V.str lv]) ∧ ¬ (lv ≠ p ∧ lv ≠ st), ?_, ?_⟩
      · refine ⟨_, rfl, _, rfl, rfl, _, rfl, goB (fun e1 => ⟨_, rfl, _, rfl, rfl, _, rfl, goB (fun e2 => ?_) fun e2 => ⟨rfl, rfl, ?_⟩⟩) fun e1 => goF rfl ⟨rfl, rfl, ?_⟩⟩
        · rw [str_is, Bool.not_eq_true', decide_eq_false_iff_not] at e1 e2
          rw [if_pos ⟨e1, e2⟩] at hcm
          exact qn hcm _ (s1.trans g3)
        · rw [str_is, Bool.not_eq_false', decide_eq_true_eq] at e2
          exact fun z => z.2 e2
        · rw [str_is, Bool.not_eq_false', decide_eq_true_eq] at e1
          exact fun z => z.1 e1
      rintro _ _ ⟨rfl, rfl, notno⟩
      rw [if_neg notno] at hcm
      refine ⟨fun σ' H' => σ' = [some (.ref a), some (.ref b), some (.str (kw k)), some (.ref c), some (.str st), some (.ref d), some (.ref l), some (.str p), some (.str lv), some (.str (if lv = p then st else p))] ∧ H' = upd H1 t (.tup [V.str p, V.str lv]), ?_, ?_⟩
      · refine ⟨_, rfl, _, rfl, rfl, _, rfl, goB (fun e1 => ⟨_, rfl, ?_⟩) fun e1 => ⟨_, rfl, ?_⟩⟩
        · rw [str_is, decide_eq_true_eq] at e1
          rw [if_pos e1]
          exact ⟨rfl, rfl⟩
        · rw [str_is, decide_eq_false_iff_not] at e1
          rw [if_neg e1]
          exact ⟨rfl, rfl⟩
      rintro _ _ ⟨rfl, rfl⟩
      refine ⟨fun σ' H' => σ' = [some (.ref a), some (.ref b), some (.str (kw k)), some (.ref c), some (.str st), some (.ref d), some (.ref l), some (.str p), some (.str lv), some (.str (if lv = p then st else p))] ∧
        ∃ e, TwoAt H' (.ref e) (if k = true then (lv, if lv = p then st else p) else (if lv = p then st else p, lv)) ∧ Same H H' ∧ Gr H1 H' ∧ H' d = some (.lst (ps.map V.str)) ∧ H' l = some (.lst (ys ++ [.ref e])), ?_, ?_⟩
      · refine ⟨_, rfl, .inl ⟨rfl, _, SqL.of (g3 _ _ hl1)⟩, _, rfl, rfl, _, rfl, goB (fun e1 => ⟨_, rfl, _, rfl, (by show 2 ≤ sizeLine; decide), fun e he => ⟨l, _, _, rfl, rfl, same_new he _ _ (g3 _ _ hl1), szl (by omega), rfl, e, ?_, ?_, ?_, ?_, upd_same⟩⟩)
          fun e1 => ⟨_, rfl, _, rfl, (by show 2 ≤ sizeLine; decide), fun e he => ⟨l, _, _, rfl, rfl, same_new he _ _ (g3 _ _ hl1), szl (by omega), rfl, e, ?_, ?_, ?_, ?_, upd_same⟩⟩⟩
        all_goals have nel : e ≠ l := (ne_of_none (g3 _ _ hl1) he).symm
        · rw [kw_is] at e1
          subst e1
          exact ⟨e, rfl, by rw [upd_ne nel, upd_same]; rfl⟩
        · exact same_again ((s1.trans g3).trans (same_new he)) l0
        · exact (gr_same (g3.trans (same_new he))).trans (gr_lst (same_new he _ _ (g3 _ _ hl1)))
        · rw [upd_ne nl]; exact same_new he _ _ (g3 _ _ hd1)
        · rw [kw_is] at e1
          subst e1
          exact ⟨e, rfl, by rw [upd_ne nel, upd_same]; rfl⟩
        · exact same_again ((s1.trans g3).trans (same_new he)) l0
        · exact (gr_same (g3.trans (same_new he))).trans (gr_lst (same_new he _ _ (g3 _ _ hl1)))
        · rw [upd_ne nl]; exact same_new he _ _ (g3 _ _ hd1)
      rintro _ H3 ⟨rfl, e, two, s3, gr3, hd3, hl3⟩
      refine ⟨_, rfl, (if lv = p then st else p), _, _, _, ys ++ [.ref e], out ++ [if k = true then (lv, if lv = p then st else p) else (if lv = p then st else p, lv)], rfl, s3, hd3, hl3, (each.mono fun v x h => h.gr gr3).push two, by simp [hlo], ?_⟩
      rw [hcm]
      cases cmpF k (if lv = p then st else p) (ps.drop (i + 1)) (late.drop (i + 1)) with
      | none => rfl
      | some r => simp
    · rintro σ H1 ⟨st, u1, u2, u3, ys, out, rfl, s1, hd1, hl1, each, hlo, hcm⟩
      rw [List.drop_length, cmpF_nil] at hcm
      exact ⟨_, rfl, qs out (by rw [show cmpRow k (s0 :: ps) late = cmpF k s0 ps late from rfl, hcm]; simp) _ l ys s1 l0 hl1 each⟩

def spComparisons : Sp := fun vs H Q _ => ∃ (v : V) (r : Rec Str) (names : List Str), vs = [v] ∧ RecAt H v r ∧ RowOk names ∧ DblOk names (r.1, r.2.2) ∧
  (cmpRow r.2.1 r.1 r.2.2 = none → ∀ H', Same H H' → Q .non H') ∧ ((cmpRow r.2.1 r.1 r.2.2).isSome = true → ∀ H' p, Same H H' → Q (.ref p) H')
theorem ca_comparisons (T : Tx K mg aK) (D : Df K mg "comparisons" s_comparisons) (c_is_record : Ca P w K mg base 4 "is_record" spIsRecord) (c_compared : Ca P w K mg base 1 "compared" spCompared) : Ca P w K mg base 5 "comparisons" spComparisons := by
  refine ca_mk D sc_comparisons (fun _ _ _ _ _ _ us hl => match us, hl with | [_], _ => rfl) (fun vs H Q E h => ?_) (fun f cdv A outer s H vs Q E hr h => ?_)
  · obtain ⟨_, _, _, rfl, _⟩ := h
    rfl
  · obtain ⟨v, r, names, rfl, hv, ok, dok, qn, qs⟩ := h
    refine ⟨_, (pss_cons (ps_if (pt_not (pt_val (pe_ca c_is_record hr (by decide) rfl (pa_cons (pv 0) pa_nil)))) (pss_one ps_never) pss_nil)
    (pss_cons (ps_set (i := 1) sc_comparisons.nd rfl (.inl rfl) (pe_ca c_compared hr (by decide) rfl (pa_cons (pv 0) pa_nil)))
    (pss_one (ps_ret (pe_ifExp (pt_cmpR op_isN (pv 1) pe_non (nomark _)) pe_non (pe_callTy call_tuple_of (by rfl) T.b_tuple (by decide +kernel) (pa_cons (pe_callB cr_sortedTT (by rfl) T.b_sorted (by decide +kernel) (pa_cons (pv 1) pa_nil)) pa_nil))))))), ?_⟩
    refine ⟨_, rfl, v, r, names, rfl, hv, ok, dok, fun H1 s1 => ⟨_, rfl, iteF ?_⟩⟩
    refine ⟨_, rfl, v, r, names, rfl, hv.gr (gr_same s1), ok, dok, fun e H2 s2 => ?_, fun out e H2 p ys s2 hp1 hp each => ?_⟩
    · exact ⟨_, rfl, rfl, _, rfl, iteT (qn e _ (s1.trans s2))⟩
    · refine ⟨_, rfl, rfl, _, rfl, iteF ?_⟩
      refine ⟨_, rfl, p, ys, rfl, SqL.of hp, fun x hx => ?_, fun zs q hq => ⟨q, zs, rfl, .inl ⟨SqL.of upd_same, fun l hl => qs (by rw [e]; rfl) _ l (s1.trans (s2.trans ((same_new hq).trans (same_new hl))))⟩⟩⟩
      obtain ⟨i, hi, ei⟩ := List.mem_iff_getElem.mp hx
      obtain ⟨d, _, t, et, ht⟩ := each.get (i := i) (v := x) (by rw [← ei]; exact List.getElem?_eq_getElem hi)
      exact ⟨t, d.1, d.2, et, SqT.of ht⟩
end
end LP

set_option Elab.async false
set_option linter.all false
set_option maxRecDepth 100000
set_option maxHeartbeats 4000000
/-! LpD3: shorter_ones. -/
namespace LP
open PySem PySem.Spec PyProof.Rows L2
/-! ### a list or a tuple -/
def At (k : SK) (H : Hp) (a : Addr) (ys : List V) : Prop := match k with
  | .l => H a = some (.lst ys)
  | .t => H a = some (.tup ys)
theorem At.same {k : SK} {H H' : Hp} {a : Addr} {ys : List V} (h : At k H a ys) (s : Same H H') : At k H' a ys := by cases k <;> exact s _ _ h
theorem At.sq {k : SK} {K : PySem.W.Frag} {H : Hp} {a : Addr} {ys : List V} (h : At k H a ys) : Sq k K H a ys := by
  cases k
  · exact SqL.of h
  · exact SqT.of h
section
variable {X : Cx}
theorem ix_sq (k : SK) : IxR X (fun x y H Q => ∃ p xs i v, x = .ref p ∧ y = .int i ∧ Sq k X.K H p xs ∧ atI xs i = some v ∧ Q v H) := by
  cases k
  · exact ix_list
  · exact ix_tup
def ItSq (k : SK) (K : PySem.W.Frag) (a : Addr) : It := match k with
  | .l => Itl K a
  | .t => Itt K a
def iSq (k : SK) (K : PySem.W.Frag) (tl : TE) : TI := fun σ H R => tl σ H fun x H1 => ∃ a, x = .ref a ∧ (∃ xs, Sq k K H1 a xs) ∧ R (ItSq k K a) H1
theorem pi_sq (k : SK) {tg l : Expr} {tl : TE} (hl : PE X l tl) : PI X tg l (iSq k X.K tl) := by
  cases k
  · exact pi_list hl
  · exact pi_tup hl
theorem walk_sq (k : SK) {K : PySem.W.Frag} {a : Addr} {xs : List V} : Walk (ItSq k K a) xs.length (fun H => Sq k K H a xs) (YAt xs) := by
  cases k
  · exact walk_list
  · exact walk_tup
end
/-- a dict comprehension over anything that walks -/
theorem dc_it {J : It} {n : Nat} {G : Hp → Prop} {Y : Nat → Hp → V → Hp → Prop} (w : Walk J n G Y) {g : TG} {tt : TT} {tk tv : TE} {vs : List Nat} {σ : L2.St} {H1 : Hp} {D : Addr} {Qd : Hp → Prop} (Pv : Nat → Hp → Prop) (h0 : Pv 0 (upd H1 D (.dK [])))
    (hG : ∀ i H, i ≤ n → Pv i H → G H)
    (hs : ∀ i x H H', i < n → Pv i H → Y i H x H' → g x (wipe σ vs) H' fun σ2 H2 => wipe σ2 vs = wipe σ vs ∧ tt σ2 H2 fun b H3 =>
      if b = true then tk σ2 H3 fun y H4 => tv σ2 H4 fun z H5 => ∃ kvs k, y = kV k ∧ H5 D = some (.dK kvs) ∧ kvs.length < sizeLine ∧ Pv (i + 1) (upd H5 D (.dK (putK kvs k z))) else Pv (i + 1) H3)
    (hd : ∀ H, Pv n H → Qd H) :
    ∃ W : Nat → Nat → Hp → Prop, (∃ m, W 0 m (upd H1 D (.dK []))) ∧ ∀ i m H, W i m H →
      (J.stop i H ∧ Qd H) ∨ (J.go i H ∧ ∃ Nx : Hp → Prop, (∀ H', Nx H' → ∃ m', m' < m ∧ W (i + 1) m' H') ∧ ∀ x H', J.yld i H x H' → g x (wipe σ vs) H' fun σ2 H2 => wipe σ2 vs = wipe σ vs ∧ tt σ2 H2 fun b H3 =>
        if b = true then tk σ2 H3 fun y H4 => tv σ2 H4 fun z H5 => ∃ kvs k, y = kV k ∧ H5 D = some (.dK kvs) ∧ kvs.length < sizeLine ∧ Nx (upd H5 D (.dK (putK kvs k z))) else Nx H3) := by
  refine ⟨fun i m H => m + i = n ∧ Pv i H, ⟨n, rfl, h0⟩, fun i m H hw => ?_⟩
  obtain ⟨e, p⟩ := hw
  have q := hG i H (by omega) p
  rcases Nat.lt_or_ge i n with lt | ge
  · exact .inr ⟨w.goes i H lt q, Pv (i + 1), fun H' p' => ⟨m - 1, by omega, by omega, p'⟩, fun x H' y => hs i x H H' lt p (w.yields i H x H' lt q y)⟩
  · obtain rfl : i = n := by omega
    exact .inl ⟨w.stops H q, hd H p⟩

/-! ### a dict of lists by names -/
def kvsOf (ns : List Str) (la : Str → Addr) : List (Key × V) := ns.map fun n => ((Sum.inr n : Key), V.ref (la n))
theorem valV_kvs {la : Str → Addr} {n : Str} : ∀ {ns : List Str}, n ∈ ns → valV (kvsOf ns la) (Sum.inr n) = some (.ref (la n))
  | m :: ns, h => by
    by_cases e : m = n
    · subst e
      exact valV_pos rfl
    · have h' : n ∈ ns := by
        rcases List.mem_cons.mp h with q | q
        · exact absurd q.symm e
        · exact q
      exact (valV_neg fun q => e (Sum.inr.inj q)).trans (valV_kvs h')
theorem valV_kvs_none {la : Str → Addr} {n : Str} : ∀ {ns : List Str}, n ∉ ns → valV (kvsOf ns la) (Sum.inr n) = none
  | [], _ => rfl
  | m :: ns, h => by
    rw [List.mem_cons, not_or] at h
    exact (valV_neg fun q => h.1 (Sum.inr.inj q).symm).trans (valV_kvs_none h.2)
structure BelowAt (H : Hp) (p : Addr) (ns : List Str) (la : Str → Addr) (bel : Str → List Str) : Prop where
  dic : H p = some (.dK (kvsOf ns la))
  lst : ∀ n ∈ ns, H (la n) = some (.lst ((bel n).map V.str))
  inj : ∀ n ∈ ns, ∀ m ∈ ns, la n = la m → n = m
section
variable {H H' : Hp} {p : Addr} {ns : List Str} {la : Str → Addr} {bel : Str → List Str}
theorem BelowAt.same (h : BelowAt H p ns la bel) (s : Same H H') : BelowAt H' p ns la bel := ⟨s _ _ h.dic, fun n hn => s _ _ (h.lst n hn), h.inj⟩
theorem BelowAt.get (h : BelowAt H p ns la bel) {n : Str} (hn : n ∈ ns) : DGet H p (.str n) (some (.ref (la n))) := by
  rw [← valV_kvs (la := la) hn]
  exact DGet.k (k := Sum.inr n) h.dic
theorem BelowAt.ne (h : BelowAt H p ns la bel) {n : Str} (hn : n ∈ ns) : p ≠ la n := ne_of h.dic (h.lst n hn) fun q => nomatch q
theorem BelowAt.push (h : BelowAt H p ns la bel) {n o : Str} (hn : n ∈ ns) : BelowAt (upd H (la n) (.lst ((bel n).map V.str ++ [.str o]))) p ns la (fun m => if m = n then bel n ++ [o] else bel m) := by
  refine ⟨by rw [upd_ne (h.ne hn)]; exact h.dic, fun m hm => ?_, h.inj⟩
  by_cases e : m = n
  · subst e
    rw [upd_same, if_pos rfl, List.map_append]
    rfl
  · rw [upd_ne fun q => e (h.inj m hm n hn q), if_neg e]
    exact h.lst m hm
end
theorem inV_strs (z : Str) : ∀ l : List Str, inV (V.str z) (l.map V.str) = decide (z ∈ l)
  | [] => by rw [decide_eq_false (fun h => nomatch h)]; rfl
  | y :: l => by
    have ih := inV_strs z l
    show ((y == z) || inV (V.str z) (l.map V.str)) = _
    rw [ih]
    by_cases e : y = z
    · subst e; simp
    · have e1 : (y == z) = false := beq_eq_false_iff_ne.mpr e
      rw [e1]
      have e2 : (z ∈ y :: l) ↔ z ∈ l := by
        rw [List.mem_cons]
        exact ⟨fun h => h.resolve_left fun q => e q.symm, .inr⟩
      simp [e2]
section
variable {P : Program} {w : World} {K : PySem.W.Frag} {mg : Str → Option Value} {base : Heap} {aK : Addr}
def cmpR (q : Rec Str) : Option (List (Str × Str)) := cmpRow q.2.1 q.1 q.2.2
def spShorter (k : SK) : Sp := fun vs H Q _ => ∃ (a : Addr) (ys : List V) (rs : List (Rec Str)) (names : List Str), vs = [.ref a] ∧ At k H a ys ∧ Each (RecAt H) ys rs ∧ RecsOk names rs ∧
  (∀ q ∈ rs, cmpR q = none → ∀ H', Same H H' → Q .non H') ∧
  ((∀ q ∈ rs, (cmpR q).isSome = true) → ∀ H' p ns la bel, Same H H' → H p = none → (∀ n ∈ ns, H (la n) = none) → ns.Perm names → BelowAt H' p ns la bel → BelOf bel rs → (∀ n, (bel n).Nodup) → Q (.ref p) H')
theorem bel_sub {names : List Str} {rs : List (Rec Str)} {bel : Str → List Str} (ok : RecsOk names rs) (B : BelOf bel rs) (n o : Str) (h : o ∈ bel n) : o ∈ names ∧ n ∈ names := by
  obtain ⟨q, hq, r, e, m⟩ := (B n o).mp h
  obtain ⟨a, b⟩ := cmpRow_mem e _ m
  have p := (ok.ok q hq).fst
  exact ⟨p.subset a, p.subset b⟩
theorem ca_shorter_ones (kk : SK) (T : Tx K mg aK) (D : Df K mg "shorter_ones" s_shorter_ones) (c_compared : Ca P w K mg base 1 "compared" spCompared) : Ca P w K mg base 2 "shorter_ones" (spShorter kk) := by
  refine ca_mk D sc_shorter_ones (fun _ _ _ _ _ _ us hl => match us, hl with | [_], _ => rfl) (fun vs H Q E h => ?_) (fun f cdv A outer s H vs Q E hr h => ?_)
  · obtain ⟨_, _, _, _, rfl, _⟩ := h
    rfl
  · obtain ⟨a, ys, rs, names, rfl, ha, each, ok, qn, qs⟩ := h
    have m12 := ok.row.most
    obtain ⟨r0, hr0⟩ : ∃ r0, rs[0]? = some r0 := ⟨rs[0]'(by have := ok.one; omega), List.getElem?_eq_getElem _⟩
    obtain ⟨y0, hy0, b0, x0, _, rfl, hb0, ⟨p0, rfl, hp0⟩, _⟩ := each.at hr0
    have pm0 := (ok.ok r0 (List.mem_of_getElem? hr0)).fst
    have l0 := (ok.row.perm pm0).most
    refine ⟨_, (pss_cons (ps_setDc (i := 1) (own := [("name", 6)]) (g := gName 6) (tt := tYes) rfl sc_shorter_ones.nd rfl rfl (swD_true rfl rfl rfl (by decide +kernel)) (pi_list (pe_callB cr_sortedTS (by rfl) T.b_sorted (by decide +kernel) (pa_cons (pe_ix ix_tup (pe_ix (ix_sq kk) (pv 0) pe_int (fun _ _ => rfl)) pe_int (fun _ _ => rfl)) pa_nil))) (blkOk_by (N := ["records", "below", "record", "pairs", "shorter", "taller", "name"]) (sc := defScope s_shorter_ones) (by decide +kernel)) (fun _ _ _ _ _ => (pg_name (i := 6) sc_shorter_ones.nd rfl (.inl rfl))) (fun _ _ _ _ _ => pts_nil) (fun _ _ _ _ _ => (pv 6)) (fun _ _ _ _ _ => (pe_lst pa_nil)))
    (pss_cons (ps_for PassesOwn.never rfl (pi_sq kk (pv 0)) (pg_name (i := 2) sc_shorter_ones.nd rfl (.inl rfl)) (pss_cons (ps_set (i := 3) sc_shorter_ones.nd rfl (.inl rfl) (pe_ca c_compared hr (by decide) rfl (pa_cons (pv 2) pa_nil)))
    (pss_cons (ps_if (pt_cmpR op_isN (pv 3) pe_non (nomark _)) (pss_one (ps_ret pe_non)) pss_nil)
    (pss_one (ps_for PassesOwn.never rfl (pi_list (pv 3)) (pg_tup rfl (pgs_cons (pg_name (i := 4) sc_shorter_ones.nd rfl (.inl rfl)) (pgs_cons (pg_name (i := 5) sc_shorter_ones.nd rfl (.inl rfl)) pgs_nil))) (pss_one (ps_if (pt_cmpR op_notIn_seq (pv 4) (pe_dget (hu_of hr) (pv 1) (pv 5) (fun _ _ => rfl)) (by rfl)) (pss_one (ps_expr (pe_bm PySem.F.plainAttrs_list PySem.F.slot_list_append PySem.F.type_list_append mt_append (pe_dget (hu_of hr) (pv 1) (pv 5) (fun _ _ => rfl)) (pa_cons (pv 4) pa_nil)))) pss_nil)))))))
    (pss_one (ps_ret (pv 1))))), ?_⟩
    refine ⟨_, rfl, a, ys, _, _, rfl, rfl, ha.sq, atI_nat hy0, b0, _, _, _, rfl, rfl, SqT.of hb0, atI_nat rfl, p0, r0.1, rfl, SqT.of hp0, (by have h : r0.1.length ≤ 12 := l0; omega), fun ns l permN _ nl => ?_⟩
    have g1 := same_new (o := .lst (ns.map V.str)) nl
    have permNs : ns.Perm names := permN.trans pm0
    have ndN : ns.Nodup := permNs.nodup_iff.mpr ok.row.nd
    have lenN : ns.length ≤ 12 := by rw [permNs.length_eq]; exact m12
    refine ⟨l, rfl, ⟨_, SqL.of upd_same⟩, fun p hp => ?_⟩
    have p0n : H p = none := g1.free hp
    refine dc_it (n := (ns.map V.str).length) (walk_list (xs := ns.map V.str)) (fun i H1 => ∃ la : Str → Addr, Same (upd H l (.lst (ns.map V.str))) H1 ∧ BelowAt H1 p (ns.take i) la (fun _ => []) ∧ ∀ n ∈ ns.take i, H (la n) = none)
      ⟨fun _ => 0, same_new hp, ⟨upd_same, fun n hn => (by simp at hn), fun n hn => (by simp at hn)⟩, fun n hn => (by simp at hn)⟩ (fun i H1 _ ⟨_, s1, _⟩ => SqL.of (s1 _ _ upd_same)) ?_ ?_
    · rintro i x H1 H2 hi ⟨la, s1, B, fresh⟩ ⟨rfl, hx⟩
      rw [List.getElem?_map] at hx
      obtain ⟨n, hn, rfl⟩ := Option.map_eq_some_iff.mp hx
      rw [List.length_map] at hi
      have en : ns[i] = n := by rw [List.getElem?_eq_getElem hi] at hn; exact Option.some.inj hn
      have tk : ns.take (i + 1) = ns.take i ++ [n] := by rw [List.take_succ_eq_append_getElem hi, en]
      have out : n ∉ ns.take i := fun h => by
        obtain ⟨j, hj, e⟩ := List.mem_iff_getElem.mp h
        rw [List.getElem_take] at e
        rw [List.length_take] at hj
        have e1 : ns.idxOf ns[j] = j := ndN.idxOf_getElem j (by omega)
        have e2 : ns.idxOf ns[i] = i := ndN.idxOf_getElem i hi
        rw [e, ← en, e2] at e1
        omega
      refine ⟨rfl, _, rfl, Nat.zero_le _, fun m hm => ⟨kvsOf (ns.take i) la, Sum.inr n, rfl, ?_, ?_, ?_⟩⟩
      · exact same_new hm _ _ B.dic
      · have := List.length_take_le i ns
        exact szl (by unfold kvsOf; rw [List.length_map]; omega)
      · have npm : p ≠ m := ne_of_none B.dic hm
        have hmH : H m = none := g1.free (s1.free hm)
        refine ⟨fun x => if x = n then m else la x, same_again (s1.trans (same_new hm)) hp, ⟨?_, fun x hx => ?_, fun x hx y hy e => ?_⟩, fun x hx => ?_⟩
        · rw [upd_same, putK_new _ (valV_kvs_none out), tk]
          unfold kvsOf
          rw [List.map_append]
          have e : (ns.take i).map (fun n => ((Sum.inr n : Key), V.ref (la n))) = (ns.take i).map (fun x => ((Sum.inr x : Key), V.ref (if x = n then m else la x))) :=
            List.map_congr_left fun x hx => by rw [if_neg fun q : x = n => out (q ▸ hx)]
          rw [e]
          simp
        · rw [tk, List.mem_append, List.mem_singleton] at hx
          by_cases q : x = n
          · rw [if_pos q, upd_ne npm.symm, upd_same]
            rfl
          · rw [if_neg q]
            have hx := hx.resolve_right q
            rw [upd_ne (B.ne hx).symm]
            exact same_new hm _ _ (B.lst x hx)
        · rw [tk, List.mem_append, List.mem_singleton] at hx hy
          by_cases q : x = n <;> by_cases q' : y = n
          · rw [q, q']
          · rw [if_pos q, if_neg q'] at e
            exact absurd e.symm (ne_of_none (B.lst y (hy.resolve_right q')) hm)
          · rw [if_neg q, if_pos q'] at e
            exact absurd e (ne_of_none (B.lst x (hx.resolve_right q)) hm)
          · rw [if_neg q, if_neg q'] at e
            exact B.inj x (hx.resolve_right q) y (hy.resolve_right q') e
        · rw [tk, List.mem_append, List.mem_singleton] at hx
          show H (if x = n then m else la x) = none
          by_cases q : x = n
          · rw [if_pos q]; exact hmH
          · rw [if_neg q]; exact fresh x (hx.resolve_right q)
    · rintro H1 ⟨la, s1, B, fresh⟩
      rw [List.length_map, List.take_length] at B fresh
      have sH1 : Same H H1 := g1.trans s1
      refine ⟨_, rfl, a, rfl, ⟨_, (ha.same sH1).sq⟩, for_it (n := ys.length) (walk_sq kk (xs := ys))
        (fun i σ H2 => ∃ (u2 u3 u4 u5 : Option V) (bel : Str → List Str), σ = [some (.ref a), some (.ref p), u2, u3, u4, u5, none] ∧ Same H H2 ∧ BelowAt H2 p ns la bel ∧ BelOf bel (rs.take i) ∧ (∀ n, (bel n).Nodup) ∧ ∀ q ∈ rs.take i, (cmpR q).isSome = true)
        ⟨none, none, none, none, fun _ => [], rfl, sH1, B, fun n o => ⟨fun h => (nomatch h), fun ⟨q, hq, _⟩ => (by simp at hq)⟩, fun _ => List.nodup_nil, fun q hq => (by simp at hq)⟩ (fun i σ H2 _ ⟨_, _, _, _, _, _, s2, _⟩ => (ha.same s2).sq) ?_ ?_⟩
      · rintro i y σ H2 H2' hi ⟨u2, u3, u4, u5, bel, rfl, s2, B2, BO, ndB, hsome⟩ ⟨rfl, hy⟩
        obtain ⟨q, hq, hrec⟩ := each.get hy
        have mq := List.mem_of_getElem? hq
        have dok := ok.ok q mq
        have hi2 : i < rs.length := by rw [← each.1]; exact hi
        have tk : rs.take (i + 1) = rs.take i ++ [q] := by
          rw [List.take_succ_eq_append_getElem hi2]
          rw [List.getElem?_eq_getElem hi2] at hq
          rw [Option.some.inj hq]
        refine ⟨_, rfl, y, q, names, rfl, hrec.gr (gr_same s2), ok.row, dok, fun e H3 s3 => ?_, fun out e H3 c zs s3 c0 hc eachz => ?_⟩
        · exact ⟨_, rfl, rfl, _, rfl, iteT (qn q mq e _ (s2.trans s3))⟩
        refine ⟨_, rfl, rfl, _, rfl, iteF ?_⟩
        have cm : cmpR q = some out := e
        have B3 := B2.same s3
        have nelc : ∀ n ∈ ns, la n ≠ c := fun n hn => ne_of_none (B2.lst n hn) c0
        refine ⟨_, rfl, c, rfl, ⟨_, SqL.of hc⟩, for_it (n := zs.length) (walk_list (xs := zs))
          (fun j σ H4 => ∃ (u4 u5 : Option V) (bel' : Str → List Str), σ = [some (.ref a), some (.ref p), some y, some (.ref c), u4, u5, none] ∧ Same H H4 ∧ H4 c = some (.lst zs) ∧ Each (TwoAt H4) zs out ∧ BelowAt H4 p ns la bel' ∧ (∀ n, (bel' n).Nodup) ∧
            ∀ n o, o ∈ bel' n ↔ o ∈ bel n ∨ (o, n) ∈ out.take j)
          ⟨u4, u5, bel, rfl, s2.trans s3, hc, eachz, B3, ndB, fun n o => (by simp)⟩ (fun j σ H4 _ ⟨_, _, _, _, _, h, _⟩ => SqL.of h) ?_ ?_⟩
        · rintro j z σ H4 H4' hj ⟨u4, u5, bel', rfl, s4, hc4, each4, B4, nd4, mem4⟩ ⟨rfl, hz⟩
          obtain ⟨⟨lo, hi⟩, hd, t, rfl, ht⟩ := each4.get hz
          have hj2 : j < out.length := by rw [← each4.1]; exact hj
          have tkj : out.take (j + 1) = out.take j ++ [(lo, hi)] := by
            rw [List.take_succ_eq_append_getElem hj2]
            rw [List.getElem?_eq_getElem hj2] at hd
            rw [Option.some.inj hd]
          have mm := cmpRow_mem cm (lo, hi) (List.mem_of_getElem? hd)
          have hin : hi ∈ ns := permNs.symm.subset (dok.fst.subset mm.2)
          refine ⟨t, _, rfl, SqT.of ht, rfl, _, _, rfl, _, _, rfl, rfl, ?_⟩
          refine ⟨_, rfl, _, rfl, _, rfl, p, _, rfl, B4.get hin, la hi, _, rfl, .inl (SqL.of (B4.lst hi hin)), rfl, flat_strs _, _, rfl, ?_⟩
          rw [if_pos rfl, inV_strs]
          have small : (bel' hi).length ≤ 12 := by
            refine Nat.le_trans (List.Nodup.length_le_of_subset (nd4 hi) (l₂ := names) fun o ho => ?_) m12
            rcases (mem4 hi o).mp ho with h | h
            · obtain ⟨q', hq', r', e', m'⟩ := (BO hi o).mp h
              exact (ok.ok q' (List.mem_of_mem_take hq')).fst.subset (cmpRow_mem e' _ m').1
            · exact dok.fst.subset (cmpRow_mem cm _ (List.mem_of_mem_take h)).1
          refine goB (fun e1 => ?_) fun e1 => ?_
          · rw [Bool.not_eq_true', decide_eq_false_iff_not] at e1
            refine ⟨_, rfl, _, rfl, p, _, rfl, B4.get hin, .inl ⟨rfl, _, SqL.of (B4.lst hi hin)⟩, _, rfl, la hi, _, _, rfl, rfl, B4.lst hi hin, szl (by rw [List.length_map]; omega), ?_⟩
            refine ⟨_, _, fun m => if m = hi then bel' hi ++ [lo] else bel' m, rfl, same_again s4 (fresh hi hin), ?_, each4.mono fun v x h => h.gr (gr_lst (B4.lst hi hin)), B4.push hin, fun n => ?_, fun n o => ?_⟩
            · rw [upd_ne (nelc hi hin).symm]; exact hc4
            · show List.Nodup (if n = hi then bel' hi ++ [lo] else bel' n)
              by_cases q : n = hi
              · rw [if_pos q, List.nodup_append]
                exact ⟨nd4 hi, by simp, fun x hx y hy => by rw [List.mem_singleton.mp hy]; exact fun z => e1 (z ▸ hx)⟩
              · rw [if_neg q]; exact nd4 n
            · show o ∈ (if n = hi then bel' hi ++ [lo] else bel' n) ↔ _
              rw [tkj, List.mem_append, List.mem_singleton, Prod.mk.injEq]
              by_cases q : n = hi
              · subst q
                rw [if_pos rfl, List.mem_append, List.mem_singleton, mem4]
                simp only [and_true, or_assoc]
              · rw [if_neg q, mem4]
                simp only [q, and_false, or_false]
          · rw [Bool.not_eq_false', decide_eq_true_eq] at e1
            refine ⟨_, _, bel', rfl, s4, hc4, each4, B4, nd4, fun n o => ?_⟩
            rw [tkj, List.mem_append, List.mem_singleton, Prod.mk.injEq, mem4]
            constructor
            · rintro (h | h)
              · exact .inl h
              · exact .inr (.inl h)
            · rintro (h | h | ⟨rfl, rfl⟩)
              · exact .inl h
              · exact .inr h
              · exact (mem4 _ _).mp e1
        · rintro σ H4 ⟨u4', u5', bel', rfl, s4, hc4, each4, B4, nd4, mem4⟩
          rw [each4.1, List.take_length] at mem4
          refine ⟨_, _, _, _, bel', rfl, s4, B4, fun n o => ?_, nd4, fun q' hq' => ?_⟩
          · rw [mem4, BO, tk]
            constructor
            · rintro (⟨q', h1, r', h2, h3⟩ | h)
              · exact ⟨q', List.mem_append_left _ h1, r', h2, h3⟩
              · exact ⟨q, List.mem_append_right _ List.mem_cons_self, out, cm, h⟩
            · rintro ⟨q', h1, r', h2, h3⟩
              rcases List.mem_append.mp h1 with h1 | h1
              · exact .inl ⟨q', h1, r', h2, h3⟩
              · rw [List.mem_singleton.mp h1] at h2
                have h2 : cmpR q = some r' := h2
                rw [cm] at h2
                cases h2
                exact .inr h3
          · rw [tk] at hq'
            rcases List.mem_append.mp hq' with h | h
            · exact hsome q' h
            · rw [List.mem_singleton.mp h, cm]
              rfl
      · rintro σ H2 ⟨u2, u3, u4, u5, bel, rfl, s2, B2, BO, ndB, hsome⟩
        rw [each.1, List.take_length] at BO hsome
        exact ⟨_, rfl, qs hsome _ p ns la bel s2 p0n fresh permNs B2 BO ndB⟩
end
end LP

set_option Elab.async false
set_option linter.all false
set_option maxRecDepth 100000
set_option maxHeartbeats 4000000
/-! LpD4: first_order, find_order. -/
namespace LP
open PySem PySem.Spec PyProof.Rows L2
section
variable {P : Program} {w : World} {K : PySem.W.Frag} {mg : Str → Option Value} {base : Heap} {aK : Addr}
/-- f is above all who are below -/
def Above (f : Str → Int) (ns : List Str) (bel : Str → List Str) : Prop := ∀ n ∈ ns, ∀ o ∈ bel n, f o < f n
def spFirst : Sp := fun vs H Q _ => ∃ (p : Addr) (ns : List Str) (la : Str → Addr) (bel : Str → List Str), vs = [.ref p] ∧ BelowAt H p ns la bel ∧ ns.Nodup ∧ ns.length ≤ 12 ∧ (∀ n, (bel n).Nodup) ∧ (∀ n ∈ ns, ∀ o ∈ bel n, o ∈ ns) ∧
  (∀ H', Same H H' → (¬ ∃ f, Above f ns bel) → Q .non H') ∧ ∀ H' v os, Same H H' → os.Perm ns → RowAt H' v os → Above (rankOf os) ns bel → Q v H'
theorem ca_first_order (T : Tx K mg aK) (D : Df K mg "first_order" s_first_order) : Ca P w K mg base 1 "first_order" spFirst := by
  refine ca_mk D sc_first_order (fun _ _ _ _ _ _ us hl => match us, hl with | [_], _ => rfl) (fun vs H Q E h => ?_) (fun f cdv A outer s H vs Q E hr h => ?_)
  · obtain ⟨_, _, _, _, rfl, _⟩ := h
    rfl
  · obtain ⟨p, ns, la, bel, rfl, B, ndN, lenN, ndB, subB, qn, qs⟩ := h
    refine ⟨_, (pss_cons (ps_set (i := 1) sc_first_order.nd rfl (.inr rfl) (pe_lst pa_nil))
    (pss_cons (ps_while PassesOwn.never (pt_cmpR op_lt (pe_callB call_len_seq (by rfl) T.b_len (by decide +kernel) (pa_cons (pv 1) pa_nil)) (pe_callB call_lenD (by rfl) T.b_len (by decide +kernel) (pa_cons (pv 0) pa_nil)) (nomark _)) (pss_cons (ps_lock (ps_setLc (i := 2) (own := [("name", 3)]) (g := gName 3) rfl sc_first_order.nd rfl rfl (sw_true rfl rfl rfl (by decide +kernel)) (pi_keys (pv 0)) (blkOk_by (N := ["below", "order", "free", "name", "one"]) (sc := defScope s_first_order) (by decide +kernel)) (fun _ _ _ _ _ => (pg_name (i := 3) sc_first_order.nd rfl (.inl rfl))) (fun _ _ _ _ _ => (pts_one (PW.pt (pw_and (pt_cmpR (op_notIn_seqK K) (pv 3) (pv 1) (by rfl)) (pw_and1 (pt_val (pe_callB (cr_allK K rfl) (by rfl) T.b_all (by decide +kernel) (pa_cons (pe_lc (own := [("one", 4)]) (g := gName 4) (tt := tYes) rfl sc_first_order.nd (pi_listK K (pe_dget (hu_of hr) (pv 0) (pv 3) (fun _ _ => rfl))) (blkOk_by (N := ["below", "order", "free", "name", "one"]) (sc := (relS frScope (defScope s_first_order))) (by decide +kernel)) (fun _ _ _ _ _ => (pg_name (i := 4) sc_first_order.nd rfl (.inl rfl))) (fun _ _ _ _ _ => pts_nil) (fun _ _ _ _ _ => (pe_cmpR (op_in_seqK K) (pv 4) (pv 1) (by rfl)))) pa_nil)))))))) (fun _ _ _ _ _ => (pv 3))))
    (pss_cons (ps_if (pt_not (pt_truth (pv 2) (by intro _; rfl))) (pss_one (ps_ret pe_non)) pss_nil)
    (pss_one (ps_expr (pe_bm PySem.F.plainAttrs_list PySem.F.slot_list_append PySem.F.type_list_append mt_append (pv 1) (pa_cons (pe_ix ix_list (pv 2) pe_int (fun _ _ => rfl)) pa_nil)))))))
    (pss_one (ps_ret (pe_callTy call_tuple_of (by rfl) T.b_tuple (by decide +kernel) (pa_cons (pv 1) pa_nil)))))), ?_⟩
    refine ⟨Nat.zero_le _, fun lo hlo => ?_⟩
    have npl : p ≠ lo := ne_of_none B.dic hlo
    refine ⟨fun m σ H1 => ∃ (u2 : Option V) (order : List Str), m = ns.length - order.length ∧ σ = [some (.ref p), some (.ref lo), u2, none, none] ∧ Same H H1 ∧ H1 lo = some (.lst (order.map V.str)) ∧ Sofar ns bel order,
      ⟨_, none, [], rfl, rfl, same_new hlo, upd_same, Sofar.nil⟩, ?_⟩
    rintro m σ H1 ⟨u2, order, rfl, rfl, s1, ho1, S⟩
    have B1 := B.same s1
    have lenO := S.le
    have subO : ∀ n ∈ ns, (bel n).length ≤ 12 := fun n hn => Nat.le_trans (List.Nodup.length_le_of_subset (ndB n) fun o ho => subB n hn o ho) lenN
    refine ⟨_, rfl, lo, _, rfl, .inl (SqL.of ho1), _, rfl, p, _, rfl, B1.dic, _, _, rfl, rfl, _, rfl, goB (fun e1 => ?_) fun e1 => ?_⟩
    · rw [decide_eq_true_eq] at e1
      have lt : order.length < ns.length := by
        unfold kvsOf at e1
        rw [List.length_map, List.length_map] at e1
        omega
      refine ⟨_, fun σ' H' h => h, ?_⟩
      refine ⟨p, _, B1.dic, trivial, fun od => ⟨_, rfl, p, od, rfl, .inl ⟨kvsOf ns la, upd_same, fun d hd => ?_⟩⟩⟩
      have np : p ≠ d := ne_of_none upd_same hd
      have d0 : H1 d = none := by rw [upd_ne np.symm] at hd; exact hd
      let okF : Str → Bool := fun n => !decide (n ∈ order) && (bel n).all fun o => decide (o ∈ order)
      have hlo1 : (upd H1 p (.frz od (.dK (kvsOf ns la)))) lo = some (.lst (order.map V.str)) := by rw [upd_ne npl.symm]; exact ho1
      have hla1 : ∀ n ∈ ns, (upd H1 p (.frz od (.dK (kvsOf ns la)))) (la n) = some (.lst ((bel n).map V.str)) := fun n hn => by rw [upd_ne (B1.ne hn).symm]; exact B1.lst n hn
      refine lc_it (n := (kvsOf ns la).length) walk_keys (fun i H2 => Same (upd H1 p (.frz od (.dK (kvsOf ns la)))) H2 ∧ H2 d = some (.lst (((ns.take i).filter okF).map V.str)))
        ⟨same_new hd, by rw [List.take_zero]; exact upd_same⟩ (fun i H2 _ h => h.1 _ _ upd_same) ?_ ?_
      · rintro i x H2 H2' hi ⟨s2, hd2⟩ ⟨rfl, kk, vv, hkv, rfl⟩
        unfold kvsOf at hkv hi
        rw [List.length_map] at hi
        rw [List.getElem?_map] at hkv
        obtain ⟨n, hn, en⟩ := Option.map_eq_some_iff.mp hkv
        cases en
        have hnm := List.mem_of_getElem? hn
        have en : ns[i] = n := by rw [List.getElem?_eq_getElem hi] at hn; exact Option.some.inj hn
        have tk : ns.take (i + 1) = ns.take i ++ [n] := by rw [List.take_succ_eq_append_getElem hi, en]
        refine ⟨rfl, _, rfl, _, rfl, lo, _, rfl, .inl (SqL.of (s2 _ _ hlo1)), rfl, flat_strs _, _, rfl, ?_⟩
        rw [if_pos rfl, show inV (kV (Sum.inr n)) (order.map V.str) = decide (n ∈ order) from inV_strs n order]
        refine goB (fun e2 => ?_) fun e2 => ?_
        · refine ⟨_, rfl, _, rfl, p, .ref (la n), rfl, ?_, la n, rfl, ⟨_, SqL.of (s2 _ _ (hla1 n hnm))⟩, fun d2 hd2n => ?_⟩
          · rw [← valV_kvs (la := la) hnm]
            exact .inl ⟨kvsOf ns la, Sum.inr n, .inr ⟨od, s2 _ _ upd_same⟩, rfl, rfl⟩
          have nd2 : d ≠ d2 := ne_of_none hd2 hd2n
          refine lc_it (n := ((bel n).map V.str).length) (walk_list (xs := (bel n).map V.str)) (fun j H3 => Same H2' H3 ∧ H3 d2 = some (.lst ((((bel n).take j).map fun o => decide (o ∈ order)).map V.bl)))
            ⟨same_new hd2n, by rw [List.take_zero]; exact upd_same⟩ (fun j H3 _ h => SqL.of (h.1 _ _ (s2 _ _ (hla1 n hnm)))) ?_ ?_
          · rintro j y H3 H3' hj ⟨s3, h3⟩ ⟨rfl, hy⟩
            rw [List.getElem?_map] at hy
            obtain ⟨o, hoj, rfl⟩ := Option.map_eq_some_iff.mp hy
            rw [List.length_map] at hj
            have tkj : (bel n).take (j + 1) = (bel n).take j ++ [o] := by
              rw [List.take_succ_eq_append_getElem hj]
              rw [List.getElem?_eq_getElem hj] at hoj
              rw [Option.some.inj hoj]
            have q12 := subO n hnm
            refine ⟨rfl, _, rfl, _, rfl, lo, _, rfl, .inl (SqL.of (s3 _ _ (s2 _ _ hlo1))), rfl, flat_strs _, _, h3, szl (by rw [List.length_map, List.length_map]; have := List.length_take_le j (bel n); omega), same_again s3 hd2n, ?_⟩
            rw [upd_same, inV_strs, tkj, List.map_append, List.map_append]
            rfl
          · rintro H3 ⟨s3, h3⟩
            rw [List.length_map, List.take_length] at h3
            refine ⟨_, _, rfl, SqL.of h3, _, rfl, goB (fun e3 => ?_) fun e3 => ?_⟩
            · refine ⟨_, rfl, _, s3 _ _ hd2, szl (by rw [List.length_map]; have a1 := List.length_filter_le okF (ns.take i); have a2 := List.length_take_le i ns; omega), same_again (s2.trans s3) hd, ?_⟩
              have okn : okF n = true := by
                show (!decide (n ∈ order) && (bel n).all fun o => decide (o ∈ order)) = true
                rw [List.all_map] at e3
                rw [e2]
                exact e3
              rw [upd_same, tk, List.filter_append, List.map_append]
              simp [okn]
              rfl
            · have okn : okF n = false := by
                show (!decide (n ∈ order) && (bel n).all fun o => decide (o ∈ order)) = false
                rw [List.all_map] at e3
                have e3 : ((bel n).all fun o => decide (o ∈ order)) = false := e3
                rw [e3, Bool.and_false]
              refine ⟨s2.trans s3, ?_⟩
              rw [s3 _ _ hd2, tk, List.filter_append]
              simp [okn]
        · have okn : okF n = false := by
            show (!decide (n ∈ order) && (bel n).all fun o => decide (o ∈ order)) = false
            rw [e2, Bool.false_and]
          refine ⟨s2, ?_⟩
          rw [hd2, tk, List.filter_append]
          simp [okn]
      · rintro H2 ⟨s2, hd2⟩
        unfold kvsOf at hd2
        rw [List.length_map, List.take_length] at hd2
        refine ⟨s2 _ _ upd_same, ?_⟩
        have s3 : Same H (upd H2 p (.dK (kvsOf ns la))) := fun b o e => by
          by_cases q : b = p
          · subst q
            rw [B.dic] at e
            rw [upd_same]
            exact e
          · rw [upd_ne q]
            exact s2 _ _ (by rw [upd_ne q]; exact s1 _ _ e)
        have hd3 : (upd H2 p (.dK (kvsOf ns la))) d = some (.lst ((ns.filter okF).map V.str)) := by rw [upd_ne np.symm]; exact hd2
        have hlo3 : (upd H2 p (.dK (kvsOf ns la))) lo = some (.lst (order.map V.str)) := by rw [upd_ne npl.symm]; exact s2 _ _ hlo1
        refine ⟨_, rfl, _, .inl ⟨_, SqL.of hd3, rfl⟩, ?_⟩
        cases hfr : ns.filter okF with
        | nil =>
          refine goT rfl (qn _ s3 ?_)
          rintro ⟨f, hf⟩
          have all := stuck (order := order) subB hf fun n hn hno => by
            have e : okF n = false := by
              cases q : okF n with
              | false => rfl
              | true =>
                have : n ∈ ns.filter okF := List.mem_filter.mpr ⟨hn, q⟩
                rw [hfr] at this
                cases this
            have e : (!decide (n ∈ order) && (bel n).all fun o => decide (o ∈ order)) = false := e
            rw [decide_eq_false hno, Bool.not_false, Bool.true_and] at e
            obtain ⟨o, ho, h⟩ := List.all_eq_false.mp e
            exact ⟨o, ho, fun z => h (decide_eq_true z)⟩
          have := List.Nodup.length_le_of_subset ndN all
          omega
        | cons n r =>
          rw [hfr] at hd3
          have hm : n ∈ ns.filter okF := by rw [hfr]; exact List.mem_cons_self
          obtain ⟨hnn, okn⟩ := List.mem_filter.mp hm
          have okn : (!decide (n ∈ order) && (bel n).all fun o => decide (o ∈ order)) = true := okn
          rw [Bool.and_eq_true, Bool.not_eq_true', decide_eq_false_iff_not, List.all_eq_true] at okn
          refine goF rfl ?_
          refine ⟨_, rfl, .inl ⟨rfl, _, SqL.of hlo3⟩, _, rfl, d, _, _, _, rfl, rfl, SqL.of hd3, atI_nat rfl, lo, _, _, rfl, rfl, hlo3, szl (by rw [List.length_map]; omega), ?_⟩
          refine ⟨ns.length - (order ++ [n]).length, by rw [List.length_append, List.length_singleton]; omega, some (.ref d), order ++ [n], rfl, rfl, same_again s3 hlo, ?_, S.push hnn okn.1 fun o ho => of_decide_eq_true (okn.2 o ho)⟩
          rw [upd_same, List.map_append]
          rfl
    · rw [decide_eq_false_iff_not] at e1
      have ge : ns.length ≤ order.length := by
        unfold kvsOf at e1
        rw [List.length_map, List.length_map] at e1
        omega
      have pm := S.done ndN ge
      refine ⟨_, rfl, lo, _, rfl, .inl ⟨SqL.of ho1, fun t ht => ?_⟩⟩
      refine qs _ _ order (s1.trans (same_new ht)) pm ⟨t, rfl, upd_same⟩ fun n hn o ho => ?_
      have := S.before (pm.symm.subset hn) ho
      show ((order.idxOf o : Nat) : Int) < ((order.idxOf n : Nat) : Int)
      omega
end
end LP

set_option Elab.async false
set_option linter.all false
set_option maxRecDepth 100000
set_option maxHeartbeats 4000000
/-! LpD5: find_order, other_kind, possible_kinds. -/
namespace LP
open PySem PySem.Spec PyProof.Rows L2
/-! ### words -/
def wordOf (ks : List Bool) : Str := ⟨(ks.map fun k => if k = true then 84 else 83).toArray⟩
theorem kw_cps (k : Bool) : kw k = ⟨#[if k = true then 84 else 83]⟩ := by cases k <;> decide +kernel
theorem join_kw (ks : List Bool) : Txt.join ("" : Str) (ks.map kw) = wordOf ks := by
  rw [TL.join_eq]
  induction ks with
  | nil => decide +kernel
  | cons k r ih =>
    cases r with
    | nil =>
      show kw k = _
      rw [kw_cps]
      rfl
    | cons k2 r =>
      show kw k ++ ("" : Str) ++ Str.join "" ((k2 :: r).map kw) = _
      rw [ih, kw_cps]
      apply congrArg Str.mk
      show (#[if k = true then 84 else 83] ++ #[]) ++ _ = _
      simp [wordOf]
theorem word_len (ks : List Bool) : (wordOf ks).length = ks.length := by
  show ((ks.map fun k => if k = true then 84 else 83).toArray).size = _
  simp
theorem kw_len (k : Bool) : (kw k).length = 1 := by cases k <;> decide +kernel
theorem sum_kw : ∀ ks : List Bool, ((ks.map kw).map (·.length)).sum = ks.length
  | [] => rfl
  | k :: r => by
    show (kw k).length + ((r.map kw).map (·.length)).sum = r.length + 1
    rw [kw_len, sum_kw r]
    omega
theorem word_inj {a b : List Bool} (h : wordOf a = wordOf b) : a = b := by
  have h : (a.map fun k => if k = true then 84 else 83).toArray = (b.map fun k => if k = true then 84 else 83).toArray := congrArg Str.cps h
  have h : (a.map fun k => if k = true then 84 else 83) = (b.map fun k => if k = true then 84 else 83) := by simpa using congrArg Array.toList h
  refine List.map_inj_right ?_ |>.mp h
  intro x y e
  revert e; revert x y; decide
/-- the word of a first letter, if it is explained -/
noncomputable def toldFor (ds : List (Dbl Str)) (first : Bool) : List Str := by
  classical
  exact if Expl (withKinds ds (kindsOf first ds)) then [wordOf (kindsOf first ds)] else []
theorem toldFor_yes {ds : List (Dbl Str)} {first : Bool} (h : Expl (withKinds ds (kindsOf first ds))) : toldFor ds first = [wordOf (kindsOf first ds)] := by
  unfold toldFor
  rw [if_pos h]
theorem toldFor_no {ds : List (Dbl Str)} {first : Bool} (h : ¬ Expl (withKinds ds (kindsOf first ds))) : toldFor ds first = [] := by
  unfold toldFor
  rw [if_neg h]
noncomputable def told (ds : List (Dbl Str)) : List Str := toldFor ds false ++ toldFor ds true
theorem atI_end {xs : List Str} {z : Str} (h : xs.getLast? = some z) : atI (xs.map V.str) (-1) = some (V.str z) := by
  obtain ⟨ys, rfl⟩ := List.getLast?_eq_some_iff.mp h
  rw [List.map_append]
  exact atI_last _ _
/-- the kind of a pair by its last people -/
def kf (first : Bool) (d0 d : Dbl Str) : Bool := if d.2.getLast? = d0.2.getLast? then first else !first
theorem kf_eq (first : Bool) (d0 : Dbl Str) (r : List (Dbl Str)) : kindsOf first (d0 :: r) = (d0 :: r).map (kf first d0) := rfl
structure DblsOk (names : List Str) (ds : List (Dbl Str)) : Prop where
  one : 1 ≤ ds.length
  most : ds.length ≤ 20
  row : RowOk names
  ok : ∀ d ∈ ds, DblOk names d
theorem DblsOk.recs {names : List Str} {ds : List (Dbl Str)} {ks : List Bool} (h : DblsOk names ds) (l : ks.length = ds.length) : RecsOk names (withKinds ds ks) := by
  have e := withKinds_len l
  exact ⟨by rw [e]; exact h.one, by rw [e]; exact h.most, h.row, fun q hq => h.ok _ (withKinds_mem hq)⟩
theorem DblsOk.good {names : List Str} {ds : List (Dbl Str)} (h : DblsOk names ds) : Good names ds := ⟨h.row.two, h.row.nd, fun d m => (h.ok d m).fst, fun d m => (h.ok d m).snd⟩
section
variable {P : Program} {w : World} {K : PySem.W.Frag} {mg : Str → Option Value} {base : Heap} {aK : Addr}
theorem none_not {rs : List (Rec Str)} {q : Rec Str} (m : q ∈ rs) (e : cmpR q = none) : ¬ Expl rs := by
  rintro ⟨f, h⟩
  obtain ⟨r, h1, _⟩ := h q m
  have h1 : cmpR q = some r := h1
  rw [e] at h1
  cases h1
theorem above_of {names ns : List Str} {rs : List (Rec Str)} {bel : Str → List Str} (BO : BelOf bel rs) (h : Expl rs) : ∃ f, Above f ns bel := by
  obtain ⟨f, h⟩ := h
  exact ⟨f, fun n _ o ho => bel_of_holds BO h n o ho⟩
theorem expl_of {names ns : List Str} {rs : List (Rec Str)} {bel : Str → List Str} {f : Str → Int} (ok : RecsOk names rs) (hs : ∀ q ∈ rs, (cmpR q).isSome = true) (pm : ns.Perm names) (BO : BelOf bel rs) (h : Above f ns bel) : ∀ q ∈ rs, Holds1 f q :=
  holds_of_bel BO hs fun n o ho => h n (pm.symm.subset (bel_sub ok BO n o ho).2) o ho
def spFind : Sp := fun vs H Q _ => ∃ (a : Addr) (ys : List V) (rs : List (Rec Str)) (names : List Str), vs = [.ref a] ∧ H a = some (.tup ys) ∧ Each (RecAt H) ys rs ∧ RecsOk names rs ∧
  (∀ H', Same H H' → ¬ Expl rs → Q .non H') ∧ ∀ H' v os, Same H H' → os.Perm names → RowAt H' v os → ExplBy os rs → Q v H'
theorem ca_find_order (D : Df K mg "find_order" s_find_order) (c_check_records : Ca P w K mg base 6 "check_records" spCheckRecs) (c_shorter_ones : Ca P w K mg base 2 "shorter_ones" (spShorter .t))
    (c_first_order : Ca P w K mg base 1 "first_order" spFirst) : Ca P w K mg base 7 "find_order" spFind := by
  refine ca_mk D sc_find_order (fun _ _ _ _ _ _ us hl => match us, hl with | [_], _ => rfl) (fun vs H Q E h => ?_) (fun f cdv A outer s H vs Q E hr h => ?_)
  · obtain ⟨_, _, _, _, rfl, _⟩ := h
    rfl
  · obtain ⟨a, ys, rs, names, rfl, ha, each, ok, qn, qs⟩ := h
    refine ⟨_, (pss_cons (ps_expr (pe_ca c_check_records hr (by decide) rfl (pa_cons (pv 0) pa_nil)))
    (pss_cons (ps_set (i := 1) sc_find_order.nd rfl (.inl rfl) (pe_ca c_shorter_ones hr (by decide) rfl (pa_cons (pv 0) pa_nil)))
    (pss_one (ps_ret (pe_ifExp (pt_cmpR op_isN (pv 1) pe_non (nomark _)) pe_non (pe_ca c_first_order hr (by decide) rfl (pa_cons (pv 1) pa_nil))))))), ?_⟩
    refine ⟨_, rfl, a, ys, rs, names, rfl, ha, each, ok, fun H1 s1 => ?_⟩
    refine ⟨_, rfl, a, ys, rs, names, rfl, s1 _ _ ha, each.mono fun v x h => h.gr (gr_same s1), ok, fun q m e H2 s2 => ?_, fun hs H2 p ns la bel s2 _ _ pm B BO ndB => ?_⟩
    · exact ⟨_, rfl, rfl, _, rfl, iteT (qn _ (s1.trans s2) (none_not m e))⟩
    · refine ⟨_, rfl, rfl, _, rfl, iteF ?_⟩
      have m12 := ok.row.most
      refine ⟨_, rfl, p, ns, la, bel, rfl, B, pm.nodup_iff.mpr ok.row.nd, by rw [pm.length_eq]; exact m12, ndB, fun n _ o ho => pm.symm.subset (bel_sub ok BO n o ho).1, fun H3 s3 no => ?_, fun H3 v os s3 pmo row ab => ?_⟩
      · exact qn _ ((s1.trans s2).trans s3) fun h => no (above_of (names := names) BO h)
      · exact qs _ v os ((s1.trans s2).trans s3) (pmo.trans pm) row (expl_of ok hs pm BO ab)

def spOther : Sp := fun vs H Q _ => ∃ k : Bool, vs = [.str (kw k)] ∧ Q (.str (kw (!k))) H
theorem ca_other_kind (T : Tx K mg aK) (D : Df K mg "other_kind" s_other_kind) : Ca P w K mg base 1 "other_kind" spOther := by
  refine ca_mk D sc_other_kind (fun _ _ _ _ _ _ us hl => match us, hl with | [_], _ => rfl) (fun vs H Q E h => ?_) (fun f cdv A outer s H vs Q E hr h => ?_)
  · obtain ⟨_, rfl, _⟩ := h
    rfl
  · obtain ⟨k, rfl, q⟩ := h
    refine ⟨_, (pss_one (ps_ret (pe_ifExp (pt_cmpR op_eq (pv 0) (pe_con rfl T.g_TALLEST) (nomark _)) (pe_con rfl T.g_SHORTEST) (pe_con rfl T.g_TALLEST)))), ?_⟩
    refine ⟨_, rfl, rfl, _, rfl, goB (fun e => ?_) fun e => ?_⟩
    · rw [kw_is] at e
      subst e
      exact q
    · rw [kw_is] at e
      subst e
      exact q

def spPossible : Sp := fun vs H Q _ => ∃ (a : Addr) (ys : List V) (ds : List (Dbl Str)) (names : List Str), vs = [.ref a] ∧ H a = some (.tup ys) ∧ Each (PairAt H) ys ds ∧ DblsOk names ds ∧ ∀ H' v, Same H H' → RowAt H' v (told ds) → Q v H'
theorem ca_possible_kinds (T : Tx K mg aK) (D : Df K mg "possible_kinds" s_possible_kinds) {g : Addr} (m : mg "is_double" = some (.ref g)) (c_check_names : Ca P w K mg base 5 "check_names" (spCheck g spIsDouble)) (c_shorter_ones : Ca P w K mg base 2 "shorter_ones" (spShorter .l))
    (c_first_order : Ca P w K mg base 1 "first_order" spFirst) (c_other_kind : Ca P w K mg base 1 "other_kind" spOther) : Ca P w K mg base 6 "possible_kinds" spPossible := by
  refine ca_mk D sc_possible_kinds (fun _ _ _ _ _ _ us hl => match us, hl with | [_], _ => rfl) (fun vs H Q E h => ?_) (fun f cdv A outer s H vs Q E hr h => ?_)
  · obtain ⟨_, _, _, _, rfl, _⟩ := h
    rfl
  · obtain ⟨a, ys, ds, names, rfl, ha, each, ok, q⟩ := h
    refine ⟨_, (pss_cons (ps_expr (pe_ca c_check_names hr (by decide) rfl (pa_cons (pv 0) (pa_cons (pe_con (v := .ref g) rfl ⟨_, m, rfl⟩) pa_nil))))
    (pss_cons (ps_set (i := 1) sc_possible_kinds.nd rfl (.inl rfl) (pe_lst pa_nil))
    (pss_cons (ps_for PassesOwn.never rfl (pi_tup (pe_con rfl T.g_KINDS)) (pg_name (i := 2) sc_possible_kinds.nd rfl (.inr rfl)) (pss_cons (ps_setLc (i := 3) (own := [("before", 5), ("later", 6)]) (g := gTup K 2 (gCons (gName 5) (gCons (gName 6) gNil))) (tt := tYes) rfl sc_possible_kinds.nd rfl rfl (sw_true rfl rfl rfl (by decide +kernel)) (pi_tup (pv 0)) (blkOk_by (N := ["pairs", "words", "first", "kinds", "below", "before", "later", "kind"]) (sc := defScope s_possible_kinds) (by decide +kernel)) (fun _ _ _ _ _ => (pg_tupK K 2 rfl (pgs_cons (pg_name (i := 5) sc_possible_kinds.nd rfl (.inl rfl)) (pgs_cons (pg_name (i := 6) sc_possible_kinds.nd rfl (.inl rfl)) pgs_nil)))) (fun _ _ _ _ _ => pts_nil) (fun _ _ _ _ _ => (pe_ifExp (pt_cmpR op_eq (pe_ix (ix_tupK K) (pv 6) (pe_un un_neg pe_int) (fun _ _ => rfl)) (pe_ix (ix_tupK K) (pe_ix (ix_tupK K) (pe_ix (ix_tupK K) (pv 0) pe_int (fun _ _ => rfl)) pe_int (fun _ _ => rfl)) (pe_un un_neg pe_int) (fun _ _ => rfl)) (nomark _)) (pv 2) (pe_ca c_other_kind hr (by decide) rfl (pa_cons (pv 2) pa_nil)))))
    (pss_cons (ps_set (i := 4) sc_possible_kinds.nd rfl (.inl rfl) (pe_ca c_shorter_ones hr (by decide) rfl (pa_cons (pe_lc (own := [("kind", 7), ("before", 5), ("later", 6)]) (g := gTup K 2 (gCons (gTup K 2 (gCons (gName 5) (gCons (gName 6) gNil))) (gCons (gName 7) gNil))) (tt := tYes) rfl sc_possible_kinds.nd (pi_zipK .t .l (by rfl) T.b_zip (pa_cons (pv 0) (pa_cons (pv 3) pa_nil))) (blkOk_by (N := ["pairs", "words", "first", "kinds", "below", "before", "later", "kind"]) (sc := defScope s_possible_kinds) (by decide +kernel)) (fun _ _ _ _ _ => (pg_tupK K 2 rfl (pgs_cons (pg_tupK K 2 rfl (pgs_cons (pg_name (i := 5) sc_possible_kinds.nd rfl (.inl rfl)) (pgs_cons (pg_name (i := 6) sc_possible_kinds.nd rfl (.inl rfl)) pgs_nil))) (pgs_cons (pg_name (i := 7) sc_possible_kinds.nd rfl (.inl rfl)) pgs_nil)))) (fun _ _ _ _ _ => pts_nil) (fun _ _ _ _ _ => (pe_tup (pa_cons (pv 5) (pa_cons (pv 7) (pa_cons (pv 6) pa_nil)))))) pa_nil)))
    (pss_one (ps_if (PW.pt (pw_and (pt_cmpR op_notN (pv 4) pe_non (nomark _)) (pw_and1 (pt_cmpR op_notN (pe_ca c_first_order hr (by decide) rfl (pa_cons (pv 4) pa_nil)) pe_non (nomark _))))) (pss_one (ps_expr (pe_bm PySem.F.plainAttrs_list PySem.F.slot_list_append PySem.F.type_list_append mt_append (pv 1) (pa_cons (pe_join pe_str (pv 3)) pa_nil)))) pss_nil)))))
    (pss_one (ps_ret (pe_callTy call_tuple_of (by rfl) T.b_tuple (by decide +kernel) (pa_cons (pv 1) pa_nil))))))), ?_⟩
    have heads : ∀ v ∈ ys, ∃ d, d ∈ ds ∧ PairAt H v d := fun v hv => by
      obtain ⟨i, hi, e⟩ := List.mem_iff_getElem.mp hv
      obtain ⟨d, hd, r⟩ := each.get (i := i) (v := v) (by rw [← e]; exact List.getElem?_eq_getElem hi)
      exact ⟨d, List.mem_of_getElem? hd, r⟩
    refine ⟨_, rfl, a, ys, names, rfl, ha, by rw [each.1]; exact ok.one, by rw [each.1]; exact ok.most, ok.row, fun v hv => ?_, fun v hv H1 Q1 s1 q1 => ?_, fun H1 s1 => ?_⟩
    · obtain ⟨d, hd, b, x, y, rfl, hb, hx, _⟩ := heads v hv
      exact ⟨b, _, x, d.1, rfl, hb, rfl, hx, (ok.ok d hd).fst⟩
    · obtain ⟨d, hd, r⟩ := heads v hv
      exact ⟨v, d, names, rfl, r.gr (gr_same s1), ok.row, ok.ok d hd, q1⟩
    refine ⟨Nat.zero_le _, fun wl hwl => ?_⟩
    have wl0 : H wl = none := s1.free hwl
    obtain ⟨d0, rest, rfl⟩ : ∃ d0 rest, ds = d0 :: rest := by
      cases ds with
      | nil => have := ok.one; simp at this
      | cons d r => exact ⟨d, r, rfl⟩
    obtain ⟨y0, hy0, p0, x0, l0, rfl, hp0, _, ⟨pl0, rfl, hpl0⟩⟩ := each.at (i := 0) (x := d0) rfl
    obtain ⟨z0, hz0⟩ := last_some ok.row.two (ok.ok d0 List.mem_cons_self).snd
    refine ⟨aK, rfl, ⟨_, T.seq _⟩, for_it (n := 2) (walk_tup (xs := [V.str "S", V.str "T"]))
      (fun i σ H2 => ∃ u2 u3 u4 : Option V, σ = [some (.ref a), some (.ref wl), u2, u3, u4, none, none, none] ∧ Same H H2 ∧ H2 wl = some (.lst ((([false, true].take i).flatMap (toldFor (d0 :: rest))).map V.str)) ∧ (([false, true].take i).flatMap (toldFor (d0 :: rest))).length ≤ i)
      ⟨none, none, none, rfl, s1.trans (same_new hwl), upd_same, Nat.le_refl _⟩ (fun i σ H2 _ _ => T.seq _) ?_ ?_⟩
    · rintro i x σ H2 H2' hi ⟨u2, u3, u4, rfl, s2, hw2, len2⟩ ⟨rfl, hx⟩
      obtain ⟨first, ef, rfl⟩ : ∃ first : Bool, [false, true][i]? = some first ∧ x = .str (kw first) := by
        match i, hi with
        | 0, _ => cases hx; exact ⟨false, rfl, rfl⟩
        | 1, _ => cases hx; exact ⟨true, rfl, rfl⟩
      have tki : [false, true].take (i + 1) = [false, true].take i ++ [first] := by
        match i, hi with
        | 0, _ => cases ef; rfl
        | 1, _ => cases ef; rfl
      -- the kinds
      refine ⟨_, rfl, a, rfl, ⟨_, SqT.of (s2 _ _ ha)⟩, fun kl hkl => ?_⟩
      have kl0 : H kl = none := s2.free hkl
      have nwk : wl ≠ kl := ne_of_none hw2 hkl
      refine lc_it (n := ys.length) (walk_tup (xs := ys)) (fun j H3 => Same H2' H3 ∧ H3 kl = some (.lst ((((d0 :: rest).take j).map (kf first d0)).map fun k => V.str (kw k))))
        ⟨same_new hkl, upd_same⟩ (fun j H3 _ h => SqT.of (h.1 _ _ (s2 _ _ ha))) ?_ ?_
      · rintro j y H3 H3' hj ⟨s3, h3⟩ ⟨rfl, hy⟩
        have s23 := s2.trans s3
        obtain ⟨d, hd, pd⟩ := each.get hy
        obtain ⟨t, x1, y1, rfl, ht, _, ⟨pl, rfl, hpl⟩⟩ := pd.gr (gr_same s23)
        obtain ⟨z, hz⟩ := last_some ok.row.two (ok.ok d (List.mem_of_getElem? hd)).snd
        have hj2 : j < (d0 :: rest).length := by rw [← each.1]; exact hj
        have tkj : (d0 :: rest).take (j + 1) = (d0 :: rest).take j ++ [d] := by
          rw [List.take_succ_eq_append_getElem hj2]
          rw [List.getElem?_eq_getElem hj2] at hd
          rw [Option.some.inj hd]
        have fin : ∀ k, k = kf first d0 d → ∃ acc, H3' kl = some (HO.lst acc) ∧ acc.length < sizeLine ∧ Same H2' (upd H3' kl (.lst (acc ++ [.str (kw k)]))) ∧ upd H3' kl (.lst (acc ++ [.str (kw k)])) kl = some (.lst ((((d0 :: rest).take (j + 1)).map (kf first d0)).map fun k => V.str (kw k))) := by
          rintro k rfl
          refine ⟨_, h3, szl ?_, same_again s3 hkl, ?_⟩
          · rw [List.length_map, List.length_map]
            have a1 := List.length_take_le j (d0 :: rest)
            have a2 := ok.most
            omega
          · rw [upd_same, tkj, List.map_append, List.map_append]
            rfl
        refine ⟨t, _, rfl, SqT.of ht, rfl, _, _, rfl, _, _, rfl, rfl, rfl, ?_⟩
        refine ⟨_, rfl, _, rfl, pl, _, _, _, rfl, rfl, SqT.of hpl, atI_end hz, ?_⟩
        refine ⟨_, rfl, a, _, _, _, rfl, rfl, SqT.of (s23 _ _ ha), atI_nat hy0, p0, _, _, _, rfl, rfl, SqT.of (s23 _ _ hp0), atI_nat rfl, _, rfl, pl0, _, _, _, rfl, rfl, SqT.of (s23 _ _ hpl0), atI_end hz0, rfl, _, rfl, ?_⟩
        refine goB (fun e => ?_) fun e => ?_
        · rw [str_is, decide_eq_true_eq] at e
          exact ⟨_, rfl, fin first (by unfold kf; rw [hz, hz0, e, if_pos rfl])⟩
        · rw [str_is, decide_eq_false_iff_not] at e
          exact ⟨_, rfl, first, rfl, fin (!first) (by unfold kf; rw [hz, hz0, if_neg fun q => e (Option.some.inj q)])⟩
      rintro H3 ⟨s3, h3⟩
      rw [each.1, List.take_length, ← kf_eq] at h3
      have s23 := s2.trans s3
      have lenK := kindsOf_len first (d0 :: rest)
      have h3' : H3 kl = some (.lst (((kindsOf first (d0 :: rest)).map kw).map V.str)) := by rw [h3, List.map_map]; rfl
      -- the records
      refine ⟨_, rfl, _, rfl, a, kl, _, _, rfl, SqT.of (s23 _ _ ha), SqL.of h3', fun rl hrl => ?_⟩
      have rl0 : H rl = none := s23.free hrl
      refine lc_it (n := ys.length) (walk_zipK (k1 := .t) (k2 := .l) (xs := ys) (ys := ((kindsOf first (d0 :: rest)).map kw).map V.str) (by rw [List.length_map, List.length_map, lenK, each.1]; omega))
        (fun j H4 => ∃ vs : List V, Same H3 H4 ∧ H4 rl = some (.lst vs) ∧ Each (RecAt H4) vs ((withKinds (d0 :: rest) (kindsOf first (d0 :: rest))).take j))
        ⟨[], same_new hrl, upd_same, Each.nil⟩ (fun j H4 _ ⟨_, h, _⟩ => ⟨SqT.of (h _ _ (s23 _ _ ha)), SqL.of (h _ _ h3')⟩) ?_ ?_
      · rintro j y H4 H4' hj ⟨vs, s4, h4, each4⟩ ⟨t, y1, k1, rfl, ht, rfl, hy, hk⟩
        have hy : ys[j]? = some y1 := hy
        have hk : (((kindsOf first (d0 :: rest)).map kw).map V.str)[j]? = some k1 := hk
        rw [List.map_map, List.getElem?_map] at hk
        obtain ⟨k, hkk, rfl⟩ := Option.map_eq_some_iff.mp hk
        have g5 := same_new (o := .tup [y1, (V.str ∘ kw) k]) ht
        have s45 := s4.trans g5
        obtain ⟨d, hd, pd⟩ := each.get hy
        obtain ⟨b, x1, x2, rfl, hb, r1, r2⟩ := pd.gr (gr_same (s23.trans s45))
        have hrec := withKinds_get hd hkk
        have hj2 : j < (withKinds (d0 :: rest) (kindsOf first (d0 :: rest))).length := (List.getElem?_eq_some_iff.mp hrec).1
        have tkj : (withKinds (d0 :: rest) (kindsOf first (d0 :: rest))).take (j + 1) = (withKinds (d0 :: rest) (kindsOf first (d0 :: rest))).take j ++ [(d.1, k, d.2)] := by
          rw [List.take_succ_eq_append_getElem hj2]
          rw [List.getElem?_eq_getElem hj2] at hrec
          rw [Option.some.inj hrec]
        refine ⟨t, _, rfl, SqT.of upd_same, rfl, _, _, rfl, ⟨b, _, rfl, SqT.of hb, rfl, _, _, rfl, _, _, rfl, rfl, _, _, rfl, rfl, rfl, ?_⟩⟩
        refine ⟨_, rfl, _, rfl, _, rfl, (by show 3 ≤ sizeLine; decide), fun e he => ⟨vs, ?_, szl ?_, vs ++ [.ref e], ?_, upd_same, ?_⟩⟩
        · exact same_new he _ _ (g5 _ _ h4)
        · rw [each4.1]
          have a1 := List.length_take_le j (withKinds (d0 :: rest) (kindsOf first (d0 :: rest)))
          have a2 := withKinds_len lenK
          have a3 := ok.most
          omega
        · exact same_again (s45.trans (same_new he)) hrl
        · rw [tkj]
          have g6 : Gr (upd H4 t (.tup [.ref b, (V.str ∘ kw) k])) (upd (upd (upd H4 t (.tup [.ref b, (V.str ∘ kw) k])) e (.tup [x1, (V.str ∘ kw) k, x2])) rl (.lst (vs ++ [.ref e]))) :=
            (gr_new he).trans (gr_lst (same_new he _ _ (g5 _ _ h4)))
          refine (each4.mono fun v x h => (h.gr (gr_same g5)).gr g6).push ⟨e, x1, x2, rfl, ?_, r1.gr g6, r2.gr g6⟩
          rw [upd_ne (ne_of_none (g5 _ _ h4) he).symm, upd_same]
          rfl
      rintro H4 ⟨vs, s4, h4, each4⟩
      have lenW := withKinds_len lenK
      rw [show ys.length = (withKinds (d0 :: rest) (kindsOf first (d0 :: rest))).length by rw [lenW, each.1], List.take_length] at each4
      have okR : RecsOk names (withKinds (d0 :: rest) (kindsOf first (d0 :: rest))) := ok.recs lenK
      have s24 := s23.trans s4
      have hw4 : H4 wl = some (.lst ((([false, true].take i).flatMap (toldFor (d0 :: rest))).map V.str)) := s4 _ _ (s3 _ _ hw2)
      have hk4 := s4 _ _ h3'
      have no : ∀ H5, Same H4 H5 → ¬ Expl (withKinds (d0 :: rest) (kindsOf first (d0 :: rest))) → ∀ u4, ∃ u2 u3 u4' : Option V, [some (V.ref a), some (.ref wl), some (.str (kw first)), some (.ref kl), u4, none, none, none] = [some (V.ref a), some (.ref wl), u2, u3, u4', none, none, none] ∧ Same H H5 ∧
          H5 wl = some (.lst ((([false, true].take (i + 1)).flatMap (toldFor (d0 :: rest))).map V.str)) ∧ (([false, true].take (i + 1)).flatMap (toldFor (d0 :: rest))).length ≤ i + 1 := fun H5 s5 ne u4 => by
        refine ⟨_, _, _, rfl, s24.trans s5, ?_, ?_⟩
        · rw [s5 _ _ hw4, tki, List.flatMap_append]
          simp [toldFor_no ne]
        · rw [tki, List.flatMap_append]
          simp [toldFor_no ne]
          simp at len2
          omega
      refine ⟨rl, vs, _, names, rfl, h4, each4, okR, fun r mr e H5 s5 => ?_, fun hs H5 p ns la bel s5 _ _ pm B BO ndB => ?_⟩
      · exact ⟨_, rfl, rfl, _, rfl, iteF (iteF (no _ s5 (none_not mr e) _))⟩
      · refine ⟨_, rfl, rfl, _, rfl, iteT ?_⟩
        refine ⟨_, rfl, p, ns, la, bel, rfl, B, pm.nodup_iff.mpr ok.row.nd, by rw [pm.length_eq]; exact ok.row.most, ndB, fun n _ o ho => pm.symm.subset (bel_sub okR BO n o ho).1, fun H6 s6 nab => ?_, fun H6 v os s6 pmo row ab => ?_⟩
        · exact ⟨rfl, _, rfl, iteF (no _ (s5.trans s6) (fun h => nab (above_of (names := names) BO h)) _)⟩
        · obtain ⟨b, rfl, hb⟩ := row
          have yes : Expl (withKinds (d0 :: rest) (kindsOf first (d0 :: rest))) := ⟨_, expl_of okR hs pm BO ab⟩
          have s46 := s5.trans s6
          refine ⟨rfl, _, rfl, iteT ?_⟩
          refine ⟨_, rfl, .inl ⟨rfl, _, SqL.of (s46 _ _ hw4)⟩, ⟨_, rfl⟩, _, rfl, _, kl, _, rfl, rfl, .inl (SqL.of (s46 _ _ hk4)), ?_, wl, _, _, rfl, rfl, s46 _ _ hw4, szl ?_, ?_⟩
          · rw [sum_kw, lenK]
            have a3 := ok.most
            show _ + _ * 0 ≤ _
            omega
          · rw [List.length_map]
            omega
          · refine ⟨_, _, _, rfl, same_again (s24.trans s46) wl0, ?_, ?_⟩
            · rw [upd_same, join_kw, tki, List.flatMap_append, List.map_append]
              simp [toldFor_yes yes]
            · rw [tki, List.flatMap_append]
              simp [toldFor_yes yes]
              simp at len2
              omega
    · rintro σ H2 ⟨u2, u3, u4, rfl, s2, hw2, len2⟩
      refine ⟨_, rfl, wl, _, rfl, .inl ⟨SqL.of hw2, fun l hl => q _ _ (s2.trans (same_new hl)) ⟨l, rfl, ?_⟩⟩⟩
      rw [upd_same]
      unfold told
      simp
end
end LP

set_option Elab.async false
set_option linter.all false
set_option maxRecDepth 100000
set_option maxHeartbeats 4000000
/-! LpD6: the law's cell, pool, draw. -/
namespace LP
open PySem PySem.Spec PyProof.Rows L2
def Md : Int := 2147483399
/-- a pool: three whole numbers -/
def PoolAt (H : Hp) (p : Addr) : Prop := ∃ a d c : Int, H p = some (.lst [.int a, .int d, .int c]) ∧ 0 ≤ a ∧ a < 2147483399 ∧ 0 ≤ d
theorem PoolAt.same {H H' : Hp} {p : Addr} (h : PoolAt H p) (s : Same H H') : PoolAt H' p := by
  obtain ⟨a, d, c, e, r⟩ := h
  exact ⟨a, d, c, s _ _ e, r⟩
theorem PoolAt.gr {H H' : Hp} {p : Addr} (h : PoolAt H p) (s : Kp p H H') : Gr H H' := by
  obtain ⟨a, d, c, e, r⟩ := h
  exact gr_kp s e
theorem PoolAt.ne {H : Hp} {p a : Addr} (h : PoolAt H p) (n : H a = none) : a ≠ p := by
  obtain ⟨_, _, _, e, r⟩ := h
  exact (ne_of_none e n).symm
theorem mod_md (x : Int) : 0 ≤ x % 2147483399 ∧ x % 2147483399 < 2147483399 := ⟨Int.emod_nonneg _ (by decide), Int.emod_lt_of_pos _ (by decide)⟩
section
variable {P : Program} {w : World} {K : PySem.W.Frag} {mg : Str → Option Value} {base : Heap} {aK : Addr}
def spCell (K : PySem.W.Frag) : Sp := fun vs H Q _ => ∃ (a : Addr) (ns : List Int) (k : Nat), vs = [.ref a, .int (k : Nat)] ∧ SqL K H a (ns.map V.int) ∧ k < 100 ∧ ∀ z H', Same H H' → Q (.int z) H'
theorem ca_l_cell (T : Tx K mg aK) (D : Df K mg "_law_cell" s_l_cell) : Ca P w K mg base 1 "_law_cell" (spCell K) := by
  refine ca_mk D sc_l_cell (fun _ _ _ _ _ _ us hl => match us, hl with | [_, _], _ => rfl) (fun vs H Q E h => ?_) (fun f cdv A outer s H vs Q E hr h => ?_)
  · obtain ⟨_, _, _, rfl, _⟩ := h
    rfl
  · obtain ⟨a, ns, k, rfl, ha, k100, q⟩ := h
    refine ⟨_, (pss_cons (ps_if (pt_cmpR op_lt (pv 1) (pe_callB call_len_seq (by rfl) T.b_len (by decide +kernel) (pa_cons (pv 0) pa_nil)) (nomark _)) (pss_one (ps_ret (pe_ix ix_list (pv 0) (pv 1) (fun _ _ => rfl)))) pss_nil)
    (pss_cons (ps_set (i := 2) sc_l_cell.nd rfl (.inl rfl) (pe_op op_mod (pe_op op_mul pe_int (pe_op op_add (pe_op op_add (pe_op op_mul (pv 1) (pv 1)) (pe_op op_mul pe_int (pv 1))) pe_int)) pe_int))
    (pss_cons (ps_for PassesOwn.never rfl (pi_list (pe_slice sl_list (pv 0) po_none (po_some pe_int))) (pg_name (i := 3) sc_l_cell.nd rfl (.inl rfl)) (pss_one (ps_set (i := 2) sc_l_cell.nd rfl (.inl rfl) (pe_op op_mod (pe_op op_add (pe_op op_mul (pv 2) pe_int) (pv 3)) pe_int))))
    (pss_one (ps_ret (pv 2)))))), ?_⟩
    refine ⟨_, rfl, _, rfl, a, _, rfl, .inl ha, _, _, rfl, rfl, _, rfl, goB (fun e => ?_) fun e => ?_⟩
    · rw [decide_eq_true_eq, List.length_map] at e
      have lt : k < ns.length := by omega
      exact ⟨_, rfl, _, rfl, a, _, _, _, rfl, rfl, ha, atI_nat (by rw [List.getElem?_map, List.getElem?_eq_getElem lt]; rfl), q _ _ (Same.refl H)⟩
    · refine ⟨_, rfl, _, rfl, _, _, rfl, rfl, .inl (by omega), _, rfl, _, _, rfl, rfl, .inl (by decide), _, _, rfl, rfl, _, _, rfl, rfl, _, _, rfl, rfl, .inl (by decide), _, _, rfl, rfl, (by show (0 : Int) < 2147483399; decide), ?_⟩
      refine ⟨_, rfl, _, rfl, a, _, rfl, ha, fun l hl => ⟨l, rfl, ⟨_, SqL.of upd_same⟩, ?_⟩⟩
      have g := same_new (o := .lst (cutV (ns.map V.int) none (some 3))) hl
      refine for_it walk_list (fun i σ H1 => ∃ (z : Int) (u : Option V), σ = [some (.ref a), some (.int (k : Nat)), some (.int z), u] ∧ 0 ≤ z ∧ z < 2147483399 ∧ H1 = upd H l (.lst (cutV (ns.map V.int) none (some 3))))
        ⟨_, none, rfl, (mod_md _).1, (mod_md _).2, rfl⟩ (fun i σ H1 _ ⟨_, _, _, _, _, e⟩ => SqL.of (by rw [e]; exact upd_same)) ?_ ?_
      · rintro i x σ H1 H1' hi ⟨z, u, rfl, z0, z1, rfl⟩ ⟨rfl, hx⟩
        obtain ⟨y, rfl⟩ : ∃ y, x = V.int y := by
          have := List.mem_of_getElem? hx
          unfold cutV at this
          obtain ⟨y, _, e⟩ := List.mem_map.mp (List.mem_of_mem_drop (List.mem_of_mem_take this))
          exact ⟨y, e.symm⟩
        exact ⟨_, rfl, _, _, rfl, rfl, .inl (by omega), _, rfl, _, _, rfl, rfl, _, _, rfl, rfl, (by show (0 : Int) < 2147483399; decide), _, _, rfl, (mod_md _).1, (mod_md _).2, rfl⟩
      · rintro σ H1 ⟨z, u, rfl, z0, z1, rfl⟩
        exact ⟨_, rfl, q _ _ g⟩

def spPool : Sp := fun vs H Q _ => ∃ z : Int, vs = [.int z] ∧ ∀ H' p, Same H H' → H p = none → PoolAt H' p → Q (.ref p) H'
theorem ca_l_pool (T : Tx K mg aK) (D : Df K mg "_law_pool" s_l_pool) : Ca P w K mg base 1 "_law_pool" spPool := by
  refine ca_mk D sc_l_pool (fun _ _ _ _ _ _ us hl => match us, hl with | [_], _ => rfl) (fun vs H Q E h => ?_) (fun f cdv A outer s H vs Q E hr h => ?_)
  · obtain ⟨_, rfl, _⟩ := h
    rfl
  · obtain ⟨z, rfl, q⟩ := h
    refine ⟨_, (pss_mid (ps_set (i := 1) sc_l_pool.nd rfl (.inl rfl) (pe_ifExp (PW.pt (pw_or (pt_cmpR op_lt (pv 0) pe_int (nomark _)) (pw_or1 (pt_cmpR op_ge (pv 0) (pe_op op_pow pe_int pe_int) (nomark _))))) (pe_callB call_abs (by rfl) T.b_abs (by decide +kernel) (pa_cons (pv 0) pa_nil)) pe_int))
    (pss_one (ps_ret (pe_lst (pa_cons (pe_op op_mod (pv 0) pe_int) (pa_cons (pv 1) (pa_cons pe_int pa_nil))))))), ?_⟩
    refine ⟨fun σ H1 => ∃ d : Int, σ = [some (.int z), some (.int d)] ∧ H1 = H ∧ 0 ≤ d, ?_, ?_⟩
    · have yes : 0 ≤ (if z < 0 then -z else z) := by split <;> omega
      refine ⟨_, rfl, _, _, rfl, rfl, _, rfl, goB (fun e => iteT ⟨_, rfl, z, rfl, _, rfl, rfl, yes⟩) fun e => ⟨_, rfl, _, _, rfl, rfl, ⟨by decide, by decide, by decide⟩, _, _, rfl, rfl, _, rfl, goB (fun e => ⟨_, rfl, z, rfl, _, rfl, rfl, yes⟩) fun e => ⟨0, rfl, rfl, by decide⟩⟩⟩
    · rintro σ H1 ⟨d, rfl, rfl, d0⟩
      refine ⟨_, rfl, _, _, rfl, rfl, (by show (0 : Int) < 2147483399; decide), _, rfl, (by show 3 ≤ sizeLine; decide), fun p hp => ?_⟩
      exact q _ p (same_new hp) hp ⟨_, d, 0, upd_same, (mod_md _).1, (mod_md _).2, d0⟩

def spDraw : Sp := fun vs H Q _ => ∃ (p : Addr) (n : Int), vs = [.ref p, .int n] ∧ PoolAt H p ∧ 0 < n ∧ n ≤ 1000 ∧ ∀ H' (r : Nat), Kp p H H' → PoolAt H' p → (r : Int) < n → Q (.int (r : Nat)) H'
theorem ca_l_draw (T : Tx K mg aK) (D : Df K mg "_law_draw" s_l_draw) : Ca P w K mg base 1 "_law_draw" spDraw := by
  refine ca_mk D sc_l_draw (fun _ _ _ _ _ _ us hl => match us, hl with | [_, _], _ => rfl) (fun vs H Q E h => ?_) (fun f cdv A outer s H vs Q E hr h => ?_)
  · obtain ⟨_, _, rfl, _⟩ := h
    rfl
  · obtain ⟨p, n, rfl, ⟨a, d, c, hp, a0, a1, d0⟩, n0, n1, q⟩ := h
    refine ⟨_, (pss_cons (ps_asg (pe_op op_add (pe_ix ix_list (pv 0) pe_int (fun _ _ => rfl)) pe_int) (pg_sub (pv 0) pe_int set_list))
    (pss_cons (ps_set (i := 2) sc_l_draw.nd rfl (.inl rfl) (pe_ix ix_list (pv 0) pe_int (fun _ _ => rfl)))
    (pss_cons (ps_asg (pe_op op_mod (pe_op op_add (pe_op op_mul (pv 2) (pe_op op_add (pe_op op_mod (pv 2) pe_int) pe_int)) (pe_op op_mul pe_int (pe_ix ix_list (pv 0) pe_int (fun _ _ => rfl)))) pe_int) (pg_sub (pv 0) pe_int set_list))
    (pss_cons (ps_if (pt_cmpR op_gt (pe_ix ix_list (pv 0) pe_int (fun _ _ => rfl)) pe_int (nomark _)) (pss_cons (ps_asg (pe_callB call_divmodW (by rfl) T.b_divmod (by decide +kernel) (pa_cons (pe_ix ix_list (pv 0) pe_int (fun _ _ => rfl)) (pa_cons (pv 1) pa_nil))) (pg_tup rfl (pgs_cons (pg_sub (pv 0) pe_int set_list) (pgs_cons (pg_name (i := 3) sc_l_draw.nd rfl (.inl rfl)) pgs_nil))))
    (pss_one (ps_ret (pv 3)))) pss_nil)
    (pss_one (ps_ret (pe_op op_mod (pe_op op_fdiv (pe_ix ix_list (pv 0) pe_int (fun _ _ => rfl)) pe_int) (pv 1)))))))), ?_⟩
    have fin : ∀ z : Int, ∃ r : Nat, z % n = (r : Nat) ∧ (r : Int) < n := fun z => ⟨(z % n).toNat, by have := Int.emod_nonneg z (by omega : n ≠ 0); omega, by have := Int.emod_nonneg z (by omega : n ≠ 0); have := Int.emod_lt_of_pos z n0; omega⟩
    refine ⟨_, rfl, p, _, _, _, rfl, rfl, SqL.of hp, atI_nat (j := 2) rfl, _, _, rfl, rfl, _, rfl, p, _, _, 2, rfl, rfl, hp, rfl, ?_⟩
    refine ⟨_, rfl, p, _, _, _, rfl, rfl, SqL.of upd_same, atI_nat (j := 0) rfl, ?_⟩
    have c1 : 0 ≤ a % 40961 + 30029 ∧ a % 40961 + 30029 < 80000 := by omega
    refine ⟨_, rfl, _, rfl, _, _, rfl, rfl, (by show (0 : Int) < 40961; decide), _, _, rfl, rfl, _, _, rfl, rfl, .inl (by omega), ?_⟩
    refine ⟨_, rfl, p, _, _, _, rfl, rfl, SqL.of upd_same, atI_nat (j := 2) rfl, _, _, rfl, rfl, .inl (by decide), _, _, rfl, rfl, _, _, rfl, rfl, (by show (0 : Int) < 2147483399; decide), _, rfl, p, _, _, 0, rfl, rfl, upd_same, rfl, ?_⟩
    have hq : (upd (upd H p (.lst [.int a, .int d, .int (c + 1)])) p (.lst [.int ((a * (a % 40961 + 30029) + 70003 * (c + 1)) % 2147483399), .int d, .int (c + 1)])) p = some (.lst [.int ((a * (a % 40961 + 30029) + 70003 * (c + 1)) % 2147483399), .int d, .int (c + 1)]) := upd_same
    have k1 : Kp p H (upd (upd H p (.lst [.int a, .int d, .int (c + 1)])) p (.lst [.int ((a * (a % 40961 + 30029) + 70003 * (c + 1)) % 2147483399), .int d, .int (c + 1)])) := kp_self (kp_self (Kp.refl p H))
    refine ⟨_, rfl, p, _, _, _, rfl, rfl, SqL.of hq, atI_nat (j := 1) rfl, _, _, rfl, rfl, _, rfl, goB (fun e => ?_) fun e => ?_⟩
    · obtain ⟨r, er, rn⟩ := fin d
      refine ⟨_, rfl, p, _, _, _, rfl, rfl, SqL.of hq, atI_nat (j := 1) rfl, _, rfl, _, _, rfl, ⟨n0, PyProof.noPylong_small (by omega)⟩, fun t ht => ?_⟩
      have g := same_new (o := .tup [.int (d / n), .int (d % n)]) ht
      refine ⟨t, _, rfl, SqT.of upd_same, rfl, _, _, rfl, ⟨_, rfl, p, _, _, 1, rfl, rfl, g _ _ hq, rfl, _, _, rfl, rfl, _, rfl, ?_⟩⟩
      have q' := q _ r (kp_self (k1.trans (kp_same g))) ⟨((a * (a % 40961 + 30029) + 70003 * (c + 1)) % 2147483399), d / n, c + 1, upd_same, (mod_md _).1, (mod_md _).2, Int.ediv_nonneg d0 (by omega)⟩ rn
      rw [← er] at q'
      exact q'
    · obtain ⟨r, er, rn⟩ := fin (((a * (a % 40961 + 30029) + 70003 * (c + 1)) % 2147483399) / 64)
      refine ⟨_, rfl, p, _, _, _, rfl, rfl, SqL.of hq, atI_nat (j := 0) rfl, _, _, rfl, rfl, ⟨by decide, by decide⟩, _, rfl, _, _, rfl, rfl, n0, ?_⟩
      show Q (.int (((a * (a % 40961 + 30029) + 70003 * (c + 1)) % 2147483399) / 64 % n)) _
      rw [er]
      exact q _ r k1 ⟨((a * (a % 40961 + 30029) + 70003 * (c + 1)) % 2147483399), d, c + 1, upd_same, (mod_md _).1, (mod_md _).2, d0⟩ rn
end
end LP

set_option Elab.async false
set_option linter.all false
set_option maxRecDepth 100000
set_option maxHeartbeats 4000000
/-! LpD7: the law's names. -/
namespace LP
open PySem PySem.Spec PyProof.Rows L2
theorem join_sing (cs : List Nat) : Txt.join ("" : Str) (cs.map fun c => (⟨#[c]⟩ : Str)) = ⟨cs.toArray⟩ := by
  rw [TL.join_eq]
  induction cs with
  | nil => decide +kernel
  | cons c r ih =>
    cases r with
    | nil => rfl
    | cons c2 r =>
      show (⟨#[c]⟩ : Str) ++ ("" : Str) ++ Str.join "" ((c2 :: r).map fun c => (⟨#[c]⟩ : Str)) = _
      rw [ih]
      apply congrArg Str.mk
      show (#[c] ++ #[]) ++ _ = _
      simp
theorem sum_sing : ∀ cs : List Nat, ((cs.map fun c => (⟨#[c]⟩ : Str)).map (·.length)).sum = cs.length
  | [] => rfl
  | c :: r => by
    show 1 + ((r.map fun c => (⟨#[c]⟩ : Str)).map (·.length)).sum = r.length + 1
    rw [sum_sing r]
    omega
theorem nameOk_mk {cs : List Nat} (h1 : 1 ≤ cs.length) (h2 : cs.length ≤ 6) (h : ∀ c ∈ cs, c ∈ Letters.cps.toList) : NameOk ⟨cs.toArray⟩ := by
  refine ⟨?_, ?_, fun c hc => h c (by simpa using hc)⟩
  · show 1 ≤ cs.toArray.size
    simpa using h1
  · show cs.toArray.size ≤ 6
    simpa using h2
/-- the name cut and one letter more -/
def longer (x : Str) (c : Nat) : Str := cutS x none (some 5) ++ ⟨#[c]⟩
def cand (x : Str) : List Str := x :: Letters.cps.toList.map (longer x)
theorem cut5 (x : Str) : (cutS x none (some 5)).cps.toList = x.cps.toList.take 5 := by
  unfold cutS
  simp only [HT.sIx]
  show ((List.drop 0 x.cps.toList).take (min (5 : Int).toNat x.length - 0)) = _
  rw [List.drop_zero, Nat.sub_zero]
  have e : (5 : Int).toNat = 5 := rfl
  rw [e]
  by_cases h : 5 ≤ x.length
  · rw [Nat.min_eq_left h]
  · have h' : x.length ≤ 5 := by omega
    have hl : x.cps.toList.length = x.length := Array.length_toList
    rw [Nat.min_eq_right h', List.take_of_length_le (by omega), List.take_of_length_le (by omega)]
theorem longer_cps (x : Str) (c : Nat) : (longer x c).cps.toList = x.cps.toList.take 5 ++ [c] := by
  show ((cutS x none (some 5)).cps ++ #[c]).toList = _
  rw [Array.toList_append, cut5]
theorem longer_len (x : Str) (c : Nat) : (longer x c).length ≤ 6 := by
  show (longer x c).cps.size ≤ 6
  rw [← Array.length_toList, longer_cps, List.length_append]
  have := List.length_take_le 5 x.cps.toList
  simp
  omega
theorem longer_inj {x : Str} {a b : Nat} (h : longer x a = longer x b) : a = b := by
  have h := congrArg (fun s : Str => s.cps.toList) h
  simp only [longer_cps] at h
  simpa using h
theorem cand_ok {x : Str} (h : NameOk x) : ∀ y ∈ cand x, NameOk y := fun y hy => by
  rcases List.mem_cons.mp hy with rfl | hy
  · exact h
  · obtain ⟨c, hc, rfl⟩ := List.mem_map.mp hy
    have e := longer_cps x c
    refine ⟨?_, longer_len x c, fun d hd => ?_⟩
    · show 1 ≤ (longer x c).cps.size
      rw [← Array.length_toList, e, List.length_append]
      simp
    · rw [e] at hd
      rcases List.mem_append.mp hd with q | q
      · exact h.2.2 d (List.mem_of_mem_take q)
      · rw [List.mem_singleton.mp q]
        exact hc
theorem cand_len (x : Str) : (cand x).length = 27 := by
  unfold cand
  rw [List.length_cons, List.length_map]
  decide +kernel
theorem cand_free (x : Str) {found : List Str} (h : found.length ≤ 11) : ∃ y ∈ cand x, y ∉ found := by
  apply Classical.byContradiction
  intro no
  have sub : ∀ y ∈ Letters.cps.toList.map (longer x), y ∈ found := fun y hy => by
    apply Classical.byContradiction
    intro q
    exact no ⟨y, List.mem_cons_of_mem _ hy, q⟩
  have nd : (Letters.cps.toList.map (longer x)).Nodup := by
    have n : Letters.cps.toList.Nodup := by decide +kernel
    exact List.pairwise_map.mpr (n.imp fun {a b} ne q => ne (longer_inj q))
  have := List.Nodup.length_le_of_subset nd sub
  rw [List.length_map] at this
  have l : Letters.cps.toList.length = 26 := by decide +kernel
  omega
def ownWords : List Str := ["run", "enter", "leave", "undo", "row", "place", "word", "deeds", "desk", "repeat", "never", "ok"]
theorem own_ok : ∀ x ∈ ownWords, NameOk x := by
  have h : ownWords.all (fun x => decide (1 ≤ x.length) && decide (x.length ≤ 6) && x.cps.toList.all fun c => decide (c ∈ Letters.cps.toList)) = true := by decide +kernel
  intro x hx
  have q := List.all_eq_true.mp h x hx
  simp only [Bool.and_eq_true, decide_eq_true_eq, List.all_eq_true] at q
  exact ⟨q.1.1, q.1.2, q.2⟩
section
variable {P : Program} {w : World} {K : PySem.W.Frag} {mg : Str → Option Value} {base : Heap} {aK : Addr}
def spNames : Sp := fun vs H Q _ => ∃ (p : Addr) (n : Nat), vs = [.ref p, .int (n : Nat)] ∧ PoolAt H p ∧ n ≤ 12 ∧ ∀ H' l (xs : List Str), Kp p H H' → PoolAt H' p → H l = none → H' l = some (.lst (xs.map V.str)) → xs.length = n → xs.Nodup → (∀ x ∈ xs, NameOk x) → Q (.ref l) H'
theorem ca_l_names (T : Tx K mg aK) (D : Df K mg "_law_names" s_l_names) (c_l_draw : Ca P w K mg base 1 "_law_draw" spDraw) : Ca P w K mg base 2 "_law_names" spNames := by
  refine ca_mk D sc_l_names (fun _ _ _ _ _ _ us hl => match us, hl with | [_, _], _ => rfl) (fun vs H Q E h => ?_) (fun f cdv A outer s H vs Q E hr h => ?_)
  · obtain ⟨_, _, rfl, _⟩ := h
    rfl
  · obtain ⟨p, n, rfl, hp, n12, q⟩ := h
    refine ⟨_, (pss_cons (ps_set (i := 2) sc_l_names.nd rfl (.inl rfl) (pe_lst (pa_cons pe_str (pa_cons pe_str (pa_cons pe_str (pa_cons pe_str (pa_cons pe_str (pa_cons pe_str (pa_cons pe_str (pa_cons pe_str (pa_cons pe_str (pa_cons pe_str (pa_cons pe_str (pa_cons pe_str pa_nil))))))))))))))
    (pss_cons (ps_asg (pe_tup (pa_cons pe_str (pa_cons (pe_lst pa_nil) pa_nil))) (pg_tup rfl (pgs_cons (pg_name (i := 3) sc_l_names.nd rfl (.inr rfl)) (pgs_cons (pg_name (i := 4) sc_l_names.nd rfl (.inr rfl)) pgs_nil))))
    (pss_cons (ps_for PassesOwn.never rfl (pi_range1 rfl T.b_range (pa_cons (pv 1) pa_nil)) (pg_name (i := 5) sc_l_names.nd rfl (.inl rfl)) (pss_cons (ps_set (i := 6) sc_l_names.nd rfl (.inr rfl) (pe_ix ix_list (pv 2) (pe_ca c_l_draw hr (by decide) rfl (pa_cons (pv 0) (pa_cons pe_int pa_nil))) (fun _ _ => rfl)))
    (pss_mid (ps_if (pt_cmpR op_gt (pe_ca c_l_draw hr (by decide) rfl (pa_cons (pv 0) (pa_cons pe_int pa_nil))) pe_int (nomark _)) (pss_one (ps_set (i := 6) sc_l_names.nd rfl (.inr rfl) (pe_join pe_str (pe_lc (own := [("_law_k", 9)]) (g := gName 9) (tt := tYes) rfl sc_l_names.nd (pi_range1 rfl T.b_range (pa_cons (pe_op op_add pe_int (pe_ca c_l_draw hr (by decide) rfl (pa_cons (pv 0) (pa_cons pe_int pa_nil)))) pa_nil)) (blkOk_by (N := ["_law_pool_here", "_law_many", "_law_own", "_law_letters", "_law_found", "_law_turn", "_law_spelt", "_law_some", "_law_letter", "_law_k", "_law_call"]) (sc := defScope s_l_names) (by decide +kernel)) (fun _ _ _ _ _ => (pg_name (i := 9) sc_l_names.nd rfl (.inl rfl))) (fun _ _ _ _ _ => pts_nil) (fun _ _ _ _ _ => (pe_ix ix_str (pv 3) (pe_ca c_l_draw hr (by decide) rfl (pa_cons (pv 0) (pa_cons pe_int pa_nil))) (fun _ _ => rfl))))))) pss_nil)
    (pss_cons (ps_set (i := 7) sc_l_names.nd rfl (.inl rfl) (pe_op op_cat (pe_lst (pa_cons (pv 6) pa_nil)) (pe_lc (own := [("_law_letter", 8)]) (g := gName 8) (tt := tYes) rfl sc_l_names.nd (pi_str (pv 3)) (blkOk_by (N := ["_law_pool_here", "_law_many", "_law_own", "_law_letters", "_law_found", "_law_turn", "_law_spelt", "_law_some", "_law_letter", "_law_k", "_law_call"]) (sc := defScope s_l_names) (by decide +kernel)) (fun _ _ _ _ _ => (pg_name (i := 8) sc_l_names.nd rfl (.inl rfl))) (fun _ _ _ _ _ => pts_nil) (fun _ _ _ _ _ => (pe_op op_add_str (pe_slice sl_str (pv 6) po_none (po_some pe_int)) (pv 8))))))
    (pss_one (ps_expr (pe_bm PySem.F.plainAttrs_list PySem.F.slot_list_append PySem.F.type_list_append mt_append (pv 4) (pa_cons (pe_ix ix_list (pe_lc (own := [("_law_call", 10)]) (g := gName 10) rfl sc_l_names.nd (pi_list (pv 7)) (blkOk_by (N := ["_law_pool_here", "_law_many", "_law_own", "_law_letters", "_law_found", "_law_turn", "_law_spelt", "_law_some", "_law_letter", "_law_k", "_law_call"]) (sc := defScope s_l_names) (by decide +kernel)) (fun _ _ _ _ _ => (pg_name (i := 10) sc_l_names.nd rfl (.inl rfl))) (fun _ _ _ _ _ => (pts_one (pt_cmpR (op_notIn_seqK K) (pv 10) (pv 4) (by rfl)))) (fun _ _ _ _ _ => (pv 10))) pe_int (fun _ _ => rfl)) pa_nil))))))))
    (pss_one (ps_ret (pv 4)))))), ?_⟩
    refine ⟨(by show 12 ≤ sizeLine; decide), fun o ho => ?_⟩
    refine ⟨Nat.zero_le _, fun fl hfl => ⟨(by show 2 ≤ sizeLine; decide), fun t ht => ⟨t, _, rfl, SqT.of upd_same, rfl, _, _, rfl, _, _, rfl, rfl, ?_⟩⟩⟩
    let G : Hp → List Str → Prop := fun H1 xs => Kp p H H1 ∧ PoolAt H1 p ∧ H1 o = some (.lst (ownWords.map V.str)) ∧ H1 fl = some (.lst (xs.map V.str))
    have nop : o ≠ p := hp.ne ho
    have nfp : fl ≠ p := (hp.same (same_new ho)).ne hfl
    have nof : o ≠ fl := ne_of_none upd_same hfl
    have fl0 : H fl = none := (same_new ho).free hfl
    have dr : ∀ {H1 H2 : Hp} {xs : List Str}, G H1 xs → Kp p H1 H2 → PoolAt H2 p → G H2 xs := fun {H1 H2 xs} g k pl => ⟨g.1.trans k, pl, k _ _ nop g.2.2.1, k _ _ nfp g.2.2.2⟩
    have sm : ∀ {H1 H2 : Hp} {xs : List Str}, G H1 xs → Same H1 H2 → G H2 xs := fun {H1 H2 xs} g s => ⟨g.1.trans (kp_same s), g.2.1.same s, s _ _ g.2.2.1, s _ _ g.2.2.2⟩
    have g0 : G (upd (upd (upd H o (.lst (ownWords.map V.str))) fl (.lst [])) t (.tup [V.str "abcdefghijklmnopqrstuvwxyz", .ref fl])) [] := by
      have s1 := same_new (o := .lst (ownWords.map V.str)) ho
      have s2 := same_new (o := .lst []) hfl
      have s3 := same_new (o := .tup [V.str "abcdefghijklmnopqrstuvwxyz", .ref fl]) ht
      exact ⟨kp_same (s1.trans (s2.trans s3)), hp.same (s1.trans (s2.trans s3)), s3 _ _ (s2 _ _ upd_same), s3 _ _ upd_same⟩
    refine ⟨_, rfl, _, rfl, (by omega), (by omega), for_it (n := n) walk_range
      (fun i σ H1 => ∃ (u5 u6 u7 : Option V) (xs : List Str), σ = [some (.ref p), some (.int (n : Nat)), some (.ref o), some (.str "abcdefghijklmnopqrstuvwxyz"), some (.ref fl), u5, u6, u7, none, none, none] ∧ G H1 xs ∧ xs.length = i ∧ xs.Nodup ∧ ∀ x ∈ xs, NameOk x)
      ⟨none, none, none, [], rfl, g0, rfl, List.nodup_nil, fun x h => (nomatch h)⟩ (fun _ _ _ _ _ => trivial) ?_ ?_⟩
    · rintro i _ σ H1 _ hi ⟨u5, u6, u7, xs, rfl, g1, len, nd, ok⟩ ⟨rfl, rfl⟩
      refine ⟨_, rfl, _, rfl, p, 12, rfl, g1.2.1, by decide, by decide, fun H2 r k2 pl2 lt => ?_⟩
      have g2 := dr g1 k2 pl2
      have lt12 : r < ownWords.length := by show r < 12; omega
      obtain ⟨x0, hx0⟩ : ∃ x0, ownWords[r]? = some x0 := ⟨_, List.getElem?_eq_getElem lt12⟩
      refine ⟨o, _, _, .str x0, rfl, rfl, SqL.of g2.2.2.1, atI_nat (by rw [List.getElem?_map, hx0]; rfl), ?_⟩
      have ok0 := own_ok x0 (List.mem_of_getElem? hx0)
      refine ⟨fun σ' H' => ∃ x : Str, σ' = [some (.ref p), some (.int (n : Nat)), some (.ref o), some (.str "abcdefghijklmnopqrstuvwxyz"), some (.ref fl), some (.int (0 + (i : Nat))), some (.str x), u7, none, none, none] ∧ G H' xs ∧ NameOk x, ?_, ?_⟩
      · refine ⟨_, rfl, p, 3, rfl, g2.2.1, by decide, by decide, fun H3 r3 k3 pl3 _ => ⟨_, _, rfl, rfl, _, rfl, goB (fun _ => ?_) fun _ => ⟨x0, rfl, dr g2 k3 pl3, ok0⟩⟩⟩
        have g3 := dr g2 k3 pl3
        refine ⟨⟨_, rfl⟩, _, rfl, p, 6, rfl, g3.2.1, by decide, by decide, fun H4 r4 k4 pl4 lt4 => ⟨_, _, rfl, rfl, _, rfl, (by omega), (by omega), fun d hd => ?_⟩⟩
        have g4 := dr g3 k4 pl4
        have ndp : d ≠ p := g4.2.1.ne hd
        have ndo : o ≠ d := ne_of_none g4.2.2.1 hd
        have ndf : fl ≠ d := ne_of_none g4.2.2.2 hd
        refine lc_it (n := 1 + r4) walk_range (fun j H5 => ∃ cs : List Nat, G H5 xs ∧ H5 d = some (.lst ((cs.map fun c => (⟨#[c]⟩ : Str)).map V.str)) ∧ cs.length = j ∧ ∀ c ∈ cs, c ∈ Letters.cps.toList)
          ⟨[], sm g4 (same_new hd), upd_same, rfl, fun c h => (nomatch h)⟩ (fun _ _ _ _ => trivial) ?_ ?_
        · rintro j _ H5 _ hj ⟨cs, g5, hd5, lcs, okc⟩ ⟨rfl, rfl⟩
          refine ⟨rfl, _, rfl, _, rfl, p, 26, rfl, g5.2.1, by decide, by decide, fun H6 r6 k6 pl6 lt6 => ?_⟩
          have g6 := dr g5 k6 pl6
          have hl : Letters.cps.toList.length = 26 := by decide +kernel
          obtain ⟨c, hc⟩ : ∃ c, Letters.cps.toList[r6]? = some c := ⟨_, List.getElem?_eq_getElem (by rw [hl]; omega)⟩
          refine ⟨_, _, c, rfl, rfl, by decide +kernel, atI_nat hc, _, k6 _ _ ndp hd5, szl (by rw [List.length_map, List.length_map]; omega), cs ++ [c], ⟨?_, ?_, ?_, ?_⟩, ?_, by simp [lcs], fun c' hc' => ?_⟩
          · exact fun b u nb e => by
              have e2 := g6.1 b u nb e
              by_cases q : b = d
              · subst q
                rw [(g4.1.free (show H p = _ from hp.choose_spec.choose_spec.choose_spec.1) hd nb)] at e
                cases e
              · rw [upd_ne q]; exact e2
          · obtain ⟨a', b', c', e', z⟩ := g6.2.1
            exact ⟨a', b', c', by rw [upd_ne ndp.symm]; exact e', z⟩
          · rw [upd_ne ndo]; exact g6.2.2.1
          · rw [upd_ne ndf]; exact g6.2.2.2
          · rw [upd_same, List.map_append, List.map_append]
            rfl
          · rcases List.mem_append.mp hc' with h | h
            · exact okc c' h
            · rw [List.mem_singleton.mp h]
              exact List.mem_of_getElem? hc
        · rintro H5 ⟨cs, g5, hd5, lcs, okc⟩
          refine ⟨_, d, cs.map fun c => (⟨#[c]⟩ : Str), rfl, rfl, .inl (SqL.of hd5), ?_, _, rfl, g5, ?_⟩
          · rw [sum_sing, lcs]
            show _ + _ * 0 ≤ _
            omega
          · rw [join_sing]
            exact nameOk_mk (by omega) (by omega) okc
      · rintro _ H3 ⟨x, rfl, g3, okx⟩
        have lx : x.length ≤ 6 := okx.2.1
        refine ⟨_, rfl, (by show 1 ≤ sizeLine; decide), fun l1 h1 => ⟨_, rfl, _, rfl, fun d hd => ?_⟩⟩
        have s1 := same_new (o := .lst [V.str x]) h1
        have g4 := sm g3 s1
        have hl : Letters.cps.toList.length = 26 := by decide +kernel
        refine lc_it (n := Letters.cps.size) (walk_str (z := Letters)) (fun j H5 => Same (upd H3 l1 (.lst [V.str x])) H5 ∧ H5 d = some (.lst (((Letters.cps.toList.take j).map (longer x)).map V.str)))
          ⟨same_new hd, upd_same⟩ (fun _ _ _ _ => trivial) ?_ ?_
        · rintro j _ H5 _ hj ⟨s5, hd5⟩ ⟨rfl, c, hc, rfl⟩
          have hj' : j < Letters.cps.toList.length := by rw [Array.length_toList]; exact hj
          have tk : Letters.cps.toList.take (j + 1) = Letters.cps.toList.take j ++ [c] := by
            rw [List.take_succ_eq_append_getElem hj']
            rw [← Array.getElem?_toList, List.getElem?_eq_getElem hj'] at hc
            rw [Option.some.inj hc]
          refine ⟨rfl, _, rfl, _, rfl, _, rfl, sz (by omega), _, rfl, _, _, rfl, rfl, sz ?_, _, hd5, szl ?_, same_again s5 hd, ?_⟩
          · have := cutS_length x none (some 5)
            show _ + 1 ≤ 1000
            omega
          · rw [List.length_map, List.length_map]
            have := List.length_take_le j Letters.cps.toList
            omega
          · rw [upd_same, tk, List.map_append, List.map_append]
            rfl
        · rintro H5 ⟨s5, hd5⟩
          rw [show Letters.cps.size = Letters.cps.toList.length from Array.length_toList.symm, List.take_length] at hd5
          have g5 := sm g4 s5
          refine ⟨l1, d, _, _, rfl, rfl, s5 _ _ upd_same, hd5, sz (by rw [List.length_map, List.length_map, hl]; show 1 + 26 ≤ 1000; decide), fun m hm => ?_⟩
          have s6 := same_new (o := .lst ([V.str x] ++ ((Letters.cps.toList.map (longer x)).map V.str))) hm
          have g6 := sm g5 s6
          have hm6 : (upd H5 m (.lst ([V.str x] ++ ((Letters.cps.toList.map (longer x)).map V.str)))) m = some (.lst ((cand x).map V.str)) := upd_same
          have cl := cand_len x
          refine ⟨_, rfl, .inl ⟨rfl, _, SqL.of g6.2.2.2⟩, _, rfl, m, rfl, ⟨_, SqL.of hm6⟩, fun d3 hd3 => ?_⟩
          refine lc_it (n := ((cand x).map V.str).length) (walk_list (xs := (cand x).map V.str)) (fun j H7 => Same (upd H5 m (.lst ([V.str x] ++ ((Letters.cps.toList.map (longer x)).map V.str)))) H7 ∧ H7 d3 = some (.lst ((((cand x).take j).filter fun y => !decide (y ∈ xs)).map V.str)))
            ⟨same_new hd3, upd_same⟩ (fun j H7 _ h => SqL.of (h.1 _ _ hm6)) ?_ ?_
          · rintro j y H7 _ hj ⟨s7, hd7⟩ ⟨rfl, hy⟩
            rw [List.getElem?_map] at hy
            obtain ⟨y, hyy, rfl⟩ := Option.map_eq_some_iff.mp hy
            rw [List.length_map] at hj
            have tk : (cand x).take (j + 1) = (cand x).take j ++ [y] := by
              rw [List.take_succ_eq_append_getElem hj]
              rw [List.getElem?_eq_getElem hj] at hyy
              rw [Option.some.inj hyy]
            refine ⟨rfl, _, rfl, _, rfl, fl, _, rfl, .inl (SqL.of (s7 _ _ g6.2.2.2)), rfl, flat_strs _, _, rfl, ?_⟩
            rw [if_pos rfl, inV_strs]
            refine goB (fun e => ⟨_, rfl, _, hd7, szl ?_, same_again s7 hd3, ?_⟩) fun e => ⟨s7, ?_⟩
            · rw [List.length_map]
              have a1 := List.length_filter_le (fun y => !decide (y ∈ xs)) ((cand x).take j)
              have a2 := List.length_take_le j (cand x)
              omega
            · rw [upd_same, tk, List.filter_append, List.map_append]
              simp only [List.filter_cons, e, if_true]
              rfl
            · rw [hd7, tk, List.filter_append]
              simp only [List.filter_cons, e]
              simp
          · rintro H7 ⟨s7, hd7⟩
            rw [List.length_map, List.take_length] at hd7
            obtain ⟨y0, hy0, ny0⟩ := cand_free x (found := xs) (by omega)
            cases hf : (cand x).filter fun y => !decide (y ∈ xs) with
            | nil =>
              have : y0 ∈ (cand x).filter fun y => !decide (y ∈ xs) := List.mem_filter.mpr ⟨hy0, by rw [decide_eq_false ny0]; rfl⟩
              rw [hf] at this
              cases this
            | cons y r =>
              rw [hf] at hd7
              have hm : y ∈ (cand x).filter fun y => !decide (y ∈ xs) := by rw [hf]; exact List.mem_cons_self
              obtain ⟨yc, yn⟩ := List.mem_filter.mp hm
              rw [Bool.not_eq_true', decide_eq_false_iff_not] at yn
              have g7 := sm g6 s7
              refine ⟨d3, _, _, _, rfl, rfl, SqL.of hd7, atI_nat rfl, fl, _, _, rfl, rfl, g7.2.2.2, szl (by rw [List.length_map]; omega), ?_⟩
              refine ⟨_, _, _, xs ++ [y], rfl, ⟨?_, ?_, ?_, ?_⟩, by simp [len], ?_, fun z hz => ?_⟩
              · exact kp_again g7.1 fl0
              · obtain ⟨a', b', c', e', z⟩ := g7.2.1
                exact ⟨a', b', c', by rw [upd_ne nfp.symm]; exact e', z⟩
              · rw [upd_ne nof]; exact g7.2.2.1
              · rw [upd_same, List.map_append]
                rfl
              · rw [List.nodup_append]
                exact ⟨nd, by simp, fun a ha b hb => by rw [List.mem_singleton.mp hb]; exact fun e => yn (e ▸ ha)⟩
              · rcases List.mem_append.mp hz with h | h
                · exact ok z h
                · rw [List.mem_singleton.mp h]
                  exact cand_ok okx y yc
    · rintro σ H1 ⟨u5, u6, u7, xs, rfl, g1, len, nd, ok⟩
      exact ⟨_, rfl, q _ fl xs g1.1 g1.2.1 fl0 g1.2.2.2 len nd ok⟩
end
end LP

set_option Elab.async false
set_option linter.all false
set_option maxRecDepth 100000
set_option maxHeartbeats 4000000
/-! LpD8: mixed, later, ranked, changed, mirror. -/
namespace LP
open PySem PySem.Spec PyProof.Rows L2
theorem erase_perm {A : Type} : ∀ {l : List A} {i : Nat} {x : A}, l[i]? = some x → (x :: l.eraseIdx i).Perm l
  | [], _, _, h => by simp at h
  | y :: l, 0, x, h => by
    simp at h
    subst h
    exact List.Perm.refl _
  | y :: l, i + 1, x, h => by
    have ih := erase_perm (l := l) (i := i) (x := x) (by simpa using h)
    show (x :: y :: l.eraseIdx i).Perm (y :: l)
    exact (List.Perm.swap y x _).trans (ih.cons y)
theorem erase_map {A B : Type} (f : A → B) : ∀ (l : List A) (i : Nat), (l.map f).eraseIdx i = (l.eraseIdx i).map f
  | [], _ => rfl
  | _ :: _, 0 => rfl
  | y :: l, i + 1 => congrArg (f y :: ·) (erase_map f l i)
theorem PoolAt.neStr {H : Hp} {p a : Addr} {xs : List Str} (h : PoolAt H p) (e : H a = some (.lst (xs.map V.str))) : a ≠ p := by
  obtain ⟨x, d, c, h, _⟩ := h
  refine ne_of e h fun q => ?_
  cases xs with
  | nil => cases q
  | cons y r =>
    injection q with q
    injection q with q
    cases q
theorem PoolAt.put {H : Hp} {p a : Addr} {o : HO} (h : PoolAt H p) (n : a ≠ p) : PoolAt (upd H a o) p := by
  obtain ⟨x, d, c, h, r⟩ := h
  exact ⟨x, d, c, by rw [upd_ne n.symm]; exact h, r⟩
section
variable {P : Program} {w : World} {K : PySem.W.Frag} {mg : Str → Option Value} {base : Heap} {aK : Addr}
def spMixed : Sp := fun vs H Q _ => ∃ (p a : Addr) (k : SK) (xs : List Str), vs = [.ref p, .ref a] ∧ PoolAt H p ∧ At k H a (xs.map V.str) ∧ xs.length ≤ 12 ∧ ∀ H' v os, Kp p H H' → PoolAt H' p → os.Perm xs → RowAt H' v os → Q v H'
theorem ca_l_mixed (T : Tx K mg aK) (D : Df K mg "_law_mixed" s_l_mixed) (c_l_draw : Ca P w K mg base 1 "_law_draw" spDraw) : Ca P w K mg base 2 "_law_mixed" spMixed := by
  refine ca_mk D sc_l_mixed (fun _ _ _ _ _ _ us hl => match us, hl with | [_, _], _ => rfl) (fun vs H Q E h => ?_) (fun f cdv A outer s H vs Q E hr h => ?_)
  · obtain ⟨_, _, _, _, rfl, _⟩ := h
    rfl
  · obtain ⟨p, a, kk, xs, rfl, hp, ha, len, q⟩ := h
    refine ⟨_, (pss_cons (ps_par rfl sc_l_mixed.nd (i := 2) (j := 3) rfl rfl (by decide) rfl rfl (pa_cons (pe_callTy call_list_of (by rfl) T.b_list (by decide +kernel) (pa_cons (pv 1) pa_nil)) (pa_cons (pe_lst pa_nil) pa_nil)) rfl)
    (pss_cons (ps_for PassesOwn.never rfl (pi_range1 rfl T.b_range (pa_cons (pe_callB call_len_seq (by rfl) T.b_len (by decide +kernel) (pa_cons (pv 1) pa_nil)) pa_nil)) (pg_name (i := 4) sc_l_mixed.nd rfl (.inl rfl)) (pss_one (ps_expr (pe_bm PySem.F.plainAttrs_list PySem.F.slot_list_append PySem.F.type_list_append mt_append (pv 3) (pa_cons (pe_bm PySem.F.plainAttrs_list PySem.F.slot_list_pop PySem.F.type_list_pop mt_popAt (pv 2) (pa_cons (pe_ca c_l_draw hr (by decide) rfl (pa_cons (pv 0) (pa_cons (pe_callB call_len_seq (by rfl) T.b_len (by decide +kernel) (pa_cons (pv 2) pa_nil)) pa_nil))) pa_nil)) pa_nil)))))
    (pss_one (ps_ret (pe_callTy call_tuple_of (by rfl) T.b_tuple (by decide +kernel) (pa_cons (pv 3) pa_nil)))))), ?_⟩
    have sq : SqL K H a (xs.map V.str) ∨ SqT K H a (xs.map V.str) := by
      cases kk
      · exact .inl (SqL.of ha)
      · exact .inr (SqT.of ha)
    refine ⟨_, rfl, a, _, rfl, sq, fun ll hll => ⟨Nat.zero_le _, fun fl hfl => ⟨_, _, rfl, ?_⟩⟩⟩
    have g1 := same_new (o := .lst (xs.map V.str)) hll
    have g2 := same_new (o := .lst []) hfl
    have g12 := g1.trans g2
    have nlp : ll ≠ p := hp.ne hll
    have nfp : fl ≠ p := (hp.same g1).ne hfl
    have nlf : ll ≠ fl := ne_of_none upd_same hfl
    have fl0 : H fl = none := g1.free hfl
    have sq2 : SqL K (upd (upd H ll (.lst (xs.map V.str))) fl (.lst [])) a (xs.map V.str) ∨ SqT K (upd (upd H ll (.lst (xs.map V.str))) fl (.lst [])) a (xs.map V.str) := by
      have ha2 := ha.same g12
      cases kk
      · exact .inl (SqL.of ha2)
      · exact .inr (SqT.of ha2)
    refine ⟨_, rfl, a, _, rfl, sq2, _, rfl, (by omega), (by rw [List.length_map]; omega), for_it (n := (xs.map V.str).length) walk_range
      (fun i σ H1 => ∃ (u : Option V) (left found : List Str), σ = [some (.ref p), some (.ref a), some (.ref ll), some (.ref fl), u] ∧ Kp p H H1 ∧ PoolAt H1 p ∧ H1 ll = some (.lst (left.map V.str)) ∧ H1 fl = some (.lst (found.map V.str)) ∧ (found ++ left).Perm xs ∧ found.length = i)
      ⟨none, xs, [], rfl, kp_same g12, hp.same g12, g2 _ _ upd_same, upd_same, List.Perm.refl _, rfl⟩ (fun _ _ _ _ _ => trivial) ?_ ?_⟩
    · rintro i _ σ H1 _ hi ⟨u, left, found, rfl, k1, p1, hl1, hf1, pm, lf⟩ ⟨rfl, rfl⟩
      rw [List.length_map] at hi
      have ll1 : found.length + left.length = xs.length := by rw [← pm.length_eq, List.length_append]
      refine ⟨_, rfl, .inl ⟨rfl, _, SqL.of hf1⟩, _, rfl, .inl ⟨rfl, _, SqL.of hl1⟩, _, rfl, _, rfl, ll, _, rfl, .inl (SqL.of hl1), p, _, rfl, p1, (by rw [List.length_map]; omega), (by rw [List.length_map]; omega), fun H2 r k2 p2 lt => ?_⟩
      rw [List.length_map] at lt
      have lt' : r < left.length := by omega
      obtain ⟨x, hx⟩ : ∃ x, left[r]? = some x := ⟨_, List.getElem?_eq_getElem lt'⟩
      have hl2 := k2 _ _ nlp hl1
      have hf2 := k2 _ _ nfp hf1
      refine ⟨ll, _, _, r, .str x, rfl, rfl, hl2, (by omega), (by omega), ?_, (by rw [List.getElem?_map, hx]; rfl), ?_⟩
      · exact (ixN_seq (by unfold ixN; rw [if_pos (by omega), if_pos (by rw [List.length_map]; omega)]; rfl)).1
      · refine ⟨fl, _, _, rfl, rfl, (by rw [upd_ne nlf.symm]; exact hf2), szl (by rw [List.length_map]; omega), ?_⟩
        refine ⟨_, left.eraseIdx r, found ++ [x], rfl, kp_again (kp_again (k1.trans k2) ((Kp.refl p H).free hp.choose_spec.choose_spec.choose_spec.1 hll nlp)) fl0, (p2.put nlp).put nfp, ?_, ?_, ?_, by simp [lf]⟩
        · rw [upd_ne nlf, upd_same, erase_map]
        · rw [upd_same, List.map_append]
          rfl
        · rw [List.append_assoc]
          exact ((erase_perm hx).append_left found).trans pm
    · rintro σ H1 ⟨u, left, found, rfl, k1, p1, hl1, hf1, pm, lf⟩
      rw [List.length_map] at lf
      have e0 : left = [] := by
        have := pm.length_eq
        rw [List.length_append] at this
        exact List.length_eq_zero_iff.mp (by omega)
      subst e0
      rw [List.append_nil] at pm
      refine ⟨_, rfl, fl, _, rfl, .inl ⟨SqL.of hf1, fun t ht => ?_⟩⟩
      exact q _ _ found (k1.trans (kp_same (same_new ht))) (p1.same (same_new ht)) pm ⟨t, rfl, upd_same⟩

/-- the ranks of an order as a dict -/
def RankAt (H : Hp) (d : Addr) (os : List Str) : Prop := ∃ kvs : List (Key × V), H d = some (.dK kvs) ∧ ∀ x ∈ os, valV kvs (Sum.inr x) = some (.int (rankOf os x))
theorem RankAt.same {H H' : Hp} {d : Addr} {os : List Str} (h : RankAt H d os) (s : Same H H') : RankAt H' d os := by
  obtain ⟨kvs, e, r⟩ := h
  exact ⟨kvs, s _ _ e, r⟩
theorem RankAt.get {H : Hp} {d : Addr} {os : List Str} (h : RankAt H d os) {x : Str} (hx : x ∈ os) : DGet H d (.str x) (some (.int (rankOf os x))) := by
  obtain ⟨kvs, e, r⟩ := h
  rw [← r x hx]
  exact DGet.k (k := Sum.inr x) e
def spLater : Sp := fun vs H Q _ => ∃ (v : V) (k : Bool) (d : Addr) (b os : List Str), vs = [v, .str (kw k), .ref d] ∧ RowAt H v b ∧ RowOk b ∧ (∀ x ∈ b, x ∈ os) ∧ RankAt H d os ∧ ∀ H' v', Same H H' → RowAt H' v' (lateRow k (rankOf os) b) → Q v' H'
theorem ca_l_later (T : Tx K mg aK) (D : Df K mg "_law_later" s_l_later) : Ca P w K mg base 1 "_law_later" spLater := by
  refine ca_mk D sc_l_later (fun _ _ _ _ _ _ us hl => match us, hl with | [_, _, _], _ => rfl) (fun vs H Q E h => ?_) (fun f cdv A outer s H vs Q E hr h => ?_)
  · obtain ⟨_, _, _, _, _, rfl, _⟩ := h
    rfl
  · obtain ⟨v, k, d, b, os, rfl, ⟨a, rfl, ha⟩, ok, sub, rk, q⟩ := h
    obtain ⟨s0, ps, rfl⟩ : ∃ s0 ps, b = s0 :: ps := by
      cases b with
      | nil => have := ok.two; simp at this
      | cons s0 ps => exact ⟨s0, ps, rfl⟩
    have m12 := ok.most
    have m11 : ps.length ≤ 11 := by simp at m12; omega
    refine ⟨_, (pss_cons (ps_par rfl sc_l_later.nd (i := 3) (j := 4) rfl rfl (by decide) rfl rfl (pa_cons (pe_ix ix_tup (pv 0) pe_int (fun _ _ => rfl)) (pa_cons (pe_lst pa_nil) pa_nil)) rfl)
    (pss_cons (ps_for PassesOwn.never rfl (pi_tup (pe_slice sl_tupA (pv 0) (po_some pe_int) po_none)) (pg_name (i := 5) sc_l_later.nd rfl (.inl rfl)) (pss_mid (ps_asg (pe_ifExp (pt_cmpR op_lt (pe_dget (hu_of hr) (pv 2) (pv 3) (fun _ _ => rfl)) (pe_dget (hu_of hr) (pv 2) (pv 5) (fun _ _ => rfl)) (nomark _)) (pe_tup (pa_cons (pv 3) (pa_cons (pv 5) pa_nil))) (pe_tup (pa_cons (pv 5) (pa_cons (pv 3) pa_nil)))) (pg_tup rfl (pgs_cons (pg_name (i := 6) sc_l_later.nd rfl (.inl rfl)) (pgs_cons (pg_name (i := 7) sc_l_later.nd rfl (.inl rfl)) pgs_nil))))
    (pss_mid (ps_expr (pe_bm PySem.F.plainAttrs_list PySem.F.slot_list_append PySem.F.type_list_append mt_append (pv 4) (pa_cons (pe_ifExp (pt_cmpR op_eq (pv 1) pe_str (nomark _)) (pv 6) (pv 7)) pa_nil)))
    (pss_one (ps_set (i := 3) sc_l_later.nd rfl (.inl rfl) (pe_ifExp (pt_cmpR op_eq (pv 1) pe_str (nomark _)) (pv 7) (pv 6)))))))
    (pss_one (ps_ret (pe_callTy call_tuple_of (by rfl) T.b_tuple (by decide +kernel) (pa_cons (pe_op op_cat (pv 4) (pe_lst (pa_cons (pv 3) pa_nil))) pa_nil)))))), ?_⟩
    refine ⟨_, rfl, a, _, _, _, rfl, rfl, SqT.of ha, atI_nat (j := 0) rfl, Nat.zero_le _, fun gl hgl => ⟨_, _, rfl, ?_⟩⟩
    have g1 := same_new (o := .lst []) hgl
    refine ⟨_, rfl, _, rfl, a, _, rfl, SqT.of (g1 _ _ ha), fun z => ?_, fun _ t ht => ?_⟩
    · exfalso
      have z1 := z.1
      rw [show (some (1 : Int)) = some ((1 : Nat) : Int) from rfl, HT.sIx_nat] at z1
      simp at z1
    have ecut : cutV ((s0 :: ps).map V.str) (some 1) none = ps.map V.str := by
      unfold cutV
      rw [show (some (1 : Int)) = some ((1 : Nat) : Int) from rfl, HT.sIx_nat, HT.sIx_none]
      simp
      exact List.take_of_length_le (by simp)
    have ht1 : (upd (upd H gl (.lst [])) t (.tup (cutV ((s0 :: ps).map V.str) (some 1) none))) t = some (.tup (ps.map V.str)) := by rw [upd_same, ecut]
    have g2 := same_new (o := .tup (cutV ((s0 :: ps).map V.str) (some 1) none)) ht
    refine ⟨t, rfl, ⟨_, SqT.of ht1⟩, for_it (n := (ps.map V.str).length) (walk_tup (xs := ps.map V.str))
      (fun i σ H1 => ∃ (st : Str) (u5 u6 u7 : Option V) (gone : List Str), σ = [some (.ref a), some (.str (kw k)), some (.ref d), some (.str st), some (.ref gl), u5, u6, u7] ∧ Same H H1 ∧ H1 t = some (.tup (ps.map V.str)) ∧ H1 gl = some (.lst (gone.map V.str)) ∧ gone.length = i ∧ st ∈ os ∧
        lateF k (rankOf os) s0 ps = gone ++ lateF k (rankOf os) st (ps.drop i))
      ⟨s0, none, none, none, [], rfl, g1.trans g2, ht1, g2 _ _ upd_same, rfl, sub s0 List.mem_cons_self, rfl⟩ (fun i σ H1 _ ⟨_, _, _, _, _, _, _, h, _⟩ => SqT.of h) ?_ ?_⟩
    · rintro i x σ H0 H1 hi ⟨st, u5, u6, u7, gone, rfl, s1, ht1, hg1, lg, so, el⟩ ⟨rfl, hx⟩
      rw [List.getElem?_map] at hx
      obtain ⟨p, hp, rfl⟩ := Option.map_eq_some_iff.mp hx
      rw [List.length_map] at hi
      have po : p ∈ os := sub p (List.mem_cons_of_mem _ (List.mem_of_getElem? hp))
      have dp : ps.drop i = p :: ps.drop (i + 1) := by rw [List.drop_eq_getElem_cons hi]; rw [List.getElem?_eq_getElem hi] at hp; cases hp; rfl
      rw [dp, lateF] at el
      have rk1 := rk.same s1
      -- low, high
      refine ⟨fun σ' H' => ∃ lo hi : Str, σ' = [some (.ref a), some (.str (kw k)), some (.ref d), some (.str st), some (.ref gl), some (.str p), some (.str lo), some (.str hi)] ∧ Same H1 H' ∧ lo ∈ os ∧ hi ∈ os ∧
        lateF k (rankOf os) s0 ps = gone ++ ((if k = true then lo else hi) :: lateF k (rankOf os) (if k = true then hi else lo) (ps.drop (i + 1))), ?_, ?_⟩
      · refine ⟨_, rfl, _, rfl, d, _, rfl, rk1.get so, _, rfl, _, rfl, d, _, rfl, rk1.get po, _, _, rfl, rfl, _, rfl, goB (fun e => ?_) fun e => ?_⟩
        · rw [decide_eq_true_eq] at e
          rw [if_pos e] at el
          exact ⟨_, rfl, _, rfl, (by show 2 ≤ sizeLine; decide), fun t2 ht2 => ⟨t2, _, rfl, SqT.of upd_same, rfl, _, _, rfl, _, _, rfl, rfl, st, p, rfl, same_new ht2, so, po, el⟩⟩
        · rw [decide_eq_false_iff_not] at e
          rw [if_neg e] at el
          exact ⟨_, rfl, _, rfl, (by show 2 ≤ sizeLine; decide), fun t2 ht2 => ⟨t2, _, rfl, SqT.of upd_same, rfl, _, _, rfl, _, _, rfl, rfl, p, st, rfl, same_new ht2, po, so, el⟩⟩
      rintro _ H2 ⟨lo, hi', rfl, s2, lo1, hi1, el⟩
      have hg2 := s2 _ _ hg1
      have nt : t ≠ gl := ne_of (s2 _ _ ht1) hg2 fun z => nomatch z
      have gl0 : H gl = none := hgl
      refine ⟨fun σ' H' => σ' = [some (.ref a), some (.str (kw k)), some (.ref d), some (.str st), some (.ref gl), some (.str p), some (.str lo), some (.str hi')] ∧ H' = upd H2 gl (.lst ((gone ++ [if k = true then lo else hi']).map V.str)), ?_, ?_⟩
      · refine ⟨_, rfl, .inl ⟨rfl, _, SqL.of hg2⟩, _, rfl, rfl, _, rfl, goB (fun e => ?_) fun e => ?_⟩
        · rw [kw_is] at e
          subst e
          refine ⟨_, rfl, gl, _, _, rfl, rfl, hg2, szl (by rw [List.length_map]; omega), rfl, ?_⟩
          rw [List.map_append]
          rfl
        · rw [kw_is] at e
          subst e
          refine ⟨_, rfl, gl, _, _, rfl, rfl, hg2, szl (by rw [List.length_map]; omega), rfl, ?_⟩
          rw [List.map_append]
          rfl
      rintro _ _ ⟨rfl, rfl⟩
      refine ⟨_, rfl, rfl, _, rfl, goB (fun e => ?_) fun e => ?_⟩
      · rw [kw_is] at e
        subst e
        refine ⟨_, rfl, hi', _, _, _, gone ++ [lo], rfl, same_again (s1.trans s2) gl0, by rw [upd_ne nt]; exact s2 _ _ ht1, upd_same, by simp [lg], hi1, ?_⟩
        rw [el]
        simp
      · rw [kw_is] at e
        subst e
        refine ⟨_, rfl, lo, _, _, _, gone ++ [hi'], rfl, same_again (s1.trans s2) gl0, by rw [upd_ne nt]; exact s2 _ _ ht1, upd_same, by simp [lg], lo1, ?_⟩
        rw [el]
        simp
    · rintro σ H1 ⟨st, u5, u6, u7, gone, rfl, s1, ht1, hg1, lg, so, el⟩
      rw [List.length_map] at lg el
      rw [List.drop_length, lateF] at el
      refine ⟨_, rfl, _, rfl, (by show 1 ≤ sizeLine; decide), fun l1 h1 => ⟨gl, l1, _, _, rfl, rfl, same_new h1 _ _ hg1, upd_same, sz (by rw [List.length_map]; show _ + 1 ≤ 1000; omega), fun l2 h2 => ⟨l2, _, rfl, .inl ⟨SqL.of upd_same, fun t2 ht2 => ?_⟩⟩⟩⟩
      refine q _ _ (s1.trans ((same_new h1).trans ((same_new h2).trans (same_new ht2)))) ⟨t2, rfl, ?_⟩
      show _ = some (HO.tup ((lateF k (rankOf os) s0 ps).map V.str))
      rw [upd_same, el, List.map_append]
      rfl
end
end LP

set_option Elab.async false
set_option linter.all false
set_option maxRecDepth 100000
set_option maxHeartbeats 4000000
/-! LpD9: ranked, changed, mirror. -/
namespace LP
open PySem PySem.Spec PyProof.Rows L2
theorem paired_push {A B : Type} {F : A → B → Prop} : ∀ {xs : List A} {ys : List B} {x : A} {y : B}, Paired F xs ys → F x y → Paired F (xs ++ [x]) (ys ++ [y])
  | _, _, _, _, .nil, r => .cons r .nil
  | _, _, _, _, .cons r t, q => .cons r (paired_push t q)
def kvR (os : List Str) : List (Key × V) := os.zipIdx.map fun q => ((Sum.inr q.1 : Key), V.int (q.2 : Nat))
theorem kvR_len (os : List Str) : (kvR os).length = os.length := by simp [kvR]
theorem kvR_get {os : List Str} {i : Nat} {x : Str} (h : os[i]? = some x) : (kvR os)[i]? = some (Sum.inr x, V.int (i : Nat)) := by
  unfold kvR
  rw [List.getElem?_map, List.getElem?_zipIdx, h]
  simp
theorem kvR_take {os : List Str} (nd : os.Nodup) : ∀ i, i ≤ os.length → ∀ x ∈ os.take i, valV (mergeK [] ((kvR os).take i)) (Sum.inr x) = some (.int (rankOf os x))
  | 0, _, x, hx => by simp at hx
  | i + 1, hi, x, hx => by
    have hi' : i < os.length := by omega
    have hk : i < (kvR os).length := by rw [kvR_len]; exact hi'
    have e := kvR_get (List.getElem?_eq_getElem hi')
    rw [List.getElem?_eq_getElem hk] at e
    have tk : (kvR os).take (i + 1) = (kvR os).take i ++ [(Sum.inr os[i], V.int (i : Nat))] := by rw [List.take_succ_eq_append_getElem hk, Option.some.inj e]
    have tx : os.take (i + 1) = os.take i ++ [os[i]] := List.take_succ_eq_append_getElem hi'
    rw [tk]
    unfold mergeK
    rw [List.foldl_append]
    show valV (putK (mergeK [] ((kvR os).take i)) (Sum.inr os[i]) (V.int (i : Nat))) (Sum.inr x) = _
    rw [valV_put]
    by_cases q : x = os[i]
    · subst q
      rw [if_pos rfl]
      unfold rankOf
      rw [nd.idxOf_getElem i hi']
    · rw [if_neg fun z => q (Sum.inr.inj z)]
      rw [tx, List.mem_append, List.mem_singleton] at hx
      exact kvR_take nd i (by omega) x (hx.resolve_right q)
section
variable {P : Program} {w : World} {K : PySem.W.Frag} {mg : Str → Option Value} {base : Heap} {aK : Addr}
def spRanked : Sp := fun vs H Q _ => ∃ (v : V) (os : List Str), vs = [v] ∧ RowAt H v os ∧ os.Nodup ∧ os.length ≤ 12 ∧ ∀ H' d, Same H H' → RankAt H' d os → Q (.ref d) H'
theorem ca_l_ranked (T : Tx K mg aK) (D : Df K mg "_law_ranked" s_l_ranked) : Ca P w K mg base 1 "_law_ranked" spRanked := by
  refine ca_mk D sc_l_ranked (fun _ _ _ _ _ _ us hl => match us, hl with | [_], _ => rfl) (fun vs H Q E h => ?_) (fun f cdv A outer s H vs Q E hr h => ?_)
  · obtain ⟨_, _, rfl, _⟩ := h
    rfl
  · obtain ⟨v, os, rfl, ⟨a, rfl, ha⟩, nd, len, q⟩ := h
    refine ⟨_, (pss_one (ps_ret (pe_callTy (call_dictP rfl) (by rfl) T.b_dict (by decide +kernel) (pa_cons (pe_lc (own := [("_law_k", 1), ("_law_person", 2)]) (g := gTup K 2 (gCons (gName 1) (gCons (gName 2) gNil))) (tt := tYes) rfl sc_l_ranked.nd (pi_enumT (by rfl) T.b_enumerate (pa_cons (pv 0) pa_nil)) (blkOk_by (N := ["_law_folk", "_law_k", "_law_person"]) (sc := defScope s_l_ranked) (by decide +kernel)) (fun _ _ _ _ _ => (pg_tupK K 2 rfl (pgs_cons (pg_name (i := 1) sc_l_ranked.nd rfl (.inl rfl)) (pgs_cons (pg_name (i := 2) sc_l_ranked.nd rfl (.inl rfl)) pgs_nil)))) (fun _ _ _ _ _ => pts_nil) (fun _ _ _ _ _ => (pe_tup (pa_cons (pv 2) (pa_cons (pv 1) pa_nil))))) pa_nil)))), ?_⟩
    refine ⟨_, rfl, a, _, rfl, SqT.of ha, fun l hl => ?_⟩
    refine lc_it (n := (os.map V.str).length) (walk_enumT (xs := os.map V.str)) (fun i H1 => ∃ ps : List Addr, Same H H1 ∧ H1 l = some (.lst (ps.map V.ref)) ∧ Paired (fun p (kv : Key × V) => H1 p = some (.tup [kV kv.1, kv.2])) ps ((kvR os).take i))
      ⟨[], same_new hl, upd_same, .nil⟩ (fun i H1 _ ⟨_, s1, _⟩ => SqT.of (s1 _ _ ha)) ?_ ?_
    · rintro i x H0 H1 hi ⟨ps, s1, hl1, pr⟩ ⟨t, _, y, rfl, ht, rfl, e1, hy⟩
      cases e1
      have hy : (os.map V.str)[i]? = some y := hy
      rw [List.getElem?_map] at hy
      obtain ⟨x, hx, rfl⟩ := Option.map_eq_some_iff.mp hy
      rw [List.length_map] at hi
      have hk : i < (kvR os).length := by rw [kvR_len]; exact hi
      have e := kvR_get hx
      rw [List.getElem?_eq_getElem hk] at e
      have tk : (kvR os).take (i + 1) = (kvR os).take i ++ [(Sum.inr x, V.int (i : Nat))] := by rw [List.take_succ_eq_append_getElem hk, Option.some.inj e]
      have g1 := same_new (o := .tup [V.int (i : Nat), V.str x]) ht
      have lps : ps.length ≤ 12 := by
        have h1 := pr.length
        rw [List.length_take] at h1
        omega
      refine ⟨t, _, rfl, SqT.of upd_same, rfl, _, _, rfl, _, _, rfl, rfl, rfl, ?_⟩
      refine ⟨_, rfl, _, rfl, (by show 2 ≤ sizeLine; decide), fun e he => ⟨_, same_new he _ _ (g1 _ _ hl1), szl (by rw [List.length_map]; omega), ps ++ [e], same_again ((s1.trans g1).trans (same_new he)) hl, ?_, ?_⟩⟩
      · rw [upd_same, List.map_append]
        rfl
      · have nel : e ≠ l := (ne_of_none (g1 _ _ hl1) he).symm
        rw [tk]
        refine paired_push (Paired.mapP pr fun p kv h => ?_) (by rw [upd_ne nel, upd_same]; rfl)
        rw [upd_ne (ne_of h hl1 fun z => nomatch z), upd_ne (ne_of_none (g1 _ _ h) he)]
        exact g1 _ _ h
    · rintro H1 ⟨ps, s1, hl1, pr⟩
      rw [List.length_map, ← kvR_len os, List.take_length] at pr
      refine ⟨l, ps, kvR os, rfl, SqL.of hl1, Paired.mapP pr fun p kv h => SqT.of h, fun d hd => ?_⟩
      refine q _ d (s1.trans (same_new hd)) ⟨_, upd_same, fun x hx => ?_⟩
      have h := kvR_take nd os.length (Nat.le_refl _) x (by rw [List.take_length]; exact hx)
      rw [← kvR_len os, List.take_length] at h
      exact h

def spChanged : Sp := fun vs H Q _ => ∃ (p : Addr) (v1 v2 : V) (b l : List Str), vs = [.ref p, v1, v2] ∧ PoolAt H p ∧ RowAt H v1 b ∧ RowAt H v2 l ∧ l.Perm b ∧ RowOk b ∧ ∀ H' v os, Kp p H H' → PoolAt H' p → os.Perm b → RowAt H' v os → Q v H'
theorem ca_l_changed (T : Tx K mg aK) (D : Df K mg "_law_changed" s_l_changed) (c_l_draw : Ca P w K mg base 1 "_law_draw" spDraw) (c_l_mixed : Ca P w K mg base 2 "_law_mixed" spMixed) : Ca P w K mg base 3 "_law_changed" spChanged := by
  refine ca_mk D sc_l_changed (fun _ _ _ _ _ _ us hl => match us, hl with | [_, _, _], _ => rfl) (fun vs H Q E h => ?_) (fun f cdv A outer s H vs Q E hr h => ?_)
  · obtain ⟨_, _, _, _, _, rfl, _⟩ := h
    rfl
  · obtain ⟨p, v1, v2, b, l, rfl, hp, ⟨a1, rfl, h1⟩, ⟨a2, rfl, h2⟩, pm, ok, q⟩ := h
    have two := ok.two
    have m12 := ok.most
    have ll := pm.length_eq
    refine ⟨_, (pss_cons (ps_par3 rfl sc_l_changed.nd (i := 3) (j := 4) (l := 5) rfl rfl rfl (by decide) (by decide) (by decide) rfl rfl rfl (pa_cons (pe_ca c_l_draw hr (by decide) rfl (pa_cons (pv 0) (pa_cons pe_int pa_nil))) (pa_cons (pe_ca c_l_draw hr (by decide) rfl (pa_cons (pv 0) (pa_cons (pe_callB call_len_seq (by rfl) T.b_len (by decide +kernel) (pa_cons (pv 1) pa_nil)) pa_nil))) (pa_cons (pe_ca c_l_draw hr (by decide) rfl (pa_cons (pv 0) (pa_cons (pe_callB call_len_seq (by rfl) T.b_len (by decide +kernel) (pa_cons (pv 1) pa_nil)) pa_nil))) pa_nil))) rfl)
    (pss_cons (ps_if (pt_cmpR op_eq (pv 3) pe_int (nomark _)) (pss_one (ps_ret (pe_revT (pv 2)))) pss_nil)
    (pss_cons (ps_if (pt_cmpR op_eq (pv 3) pe_int (nomark _)) (pss_one (ps_ret (pe_ca c_l_mixed hr (by decide) rfl (pa_cons (pv 0) (pa_cons (pv 1) pa_nil))))) pss_nil)
    (pss_cons (ps_if (pt_cmpR op_eq (pv 3) pe_int (nomark _)) (pss_one (ps_ret (pv 1))) pss_nil)
    (pss_mid (ps_if (pt_cmpR op_eq (pv 3) pe_int (nomark _)) (pss_one (ps_set (i := 5) sc_l_changed.nd rfl (.inl rfl) (pe_callB (call_max2 rfl) (by rfl) T.b_max (by decide +kernel) (pa_cons pe_int (pa_cons (pe_op op_sub (pv 4) pe_int) pa_nil))))) pss_nil)
    (pss_cons (ps_set (i := 6) sc_l_changed.nd rfl (.inl rfl) (pe_callTy call_list_of (by rfl) T.b_list (by decide +kernel) (pa_cons (pv 2) pa_nil)))
    (pss_cons (ps_asg (pe_tup (pa_cons (pe_ix ix_tup (pv 2) (pv 5) (fun _ _ => rfl)) (pa_cons (pe_ix ix_tup (pv 2) (pv 4) (fun _ _ => rfl)) pa_nil))) (pg_tup rfl (pgs_cons (pg_sub (pv 6) (pv 4) set_list) (pgs_cons (pg_sub (pv 6) (pv 5) set_list) pgs_nil))))
    (pss_one (ps_ret (pe_callTy call_tuple_of (by rfl) T.b_tuple (by decide +kernel) (pa_cons (pv 6) pa_nil))))))))))), ?_⟩
    refine ⟨_, rfl, p, 6, rfl, hp, by decide, by decide, fun H1 r1 k1 p1 lt1 => ?_⟩
    have gr1 := hp.gr k1
    refine ⟨_, rfl, _, rfl, a1, _, rfl, .inr (SqT.of (gr1 _ _ h1)), p, _, rfl, p1, (by rw [List.length_map]; omega), (by rw [List.length_map]; omega), fun H2 r2 k2 p2 lt2 => ?_⟩
    have gr2 := gr1.trans (p1.gr k2)
    have k12 := k1.trans k2
    refine ⟨_, rfl, _, rfl, a1, _, rfl, .inr (SqT.of (gr2 _ _ h1)), p, _, rfl, p2, (by rw [List.length_map]; omega), (by rw [List.length_map]; omega), fun H3 r3 k3 p3 lt3 => ?_⟩
    have gr3 := gr2.trans (p2.gr k3)
    have k13 := k12.trans k3
    rw [List.length_map] at lt2 lt3
    refine ⟨_, _, _, rfl, ?_⟩
    refine ⟨_, rfl, rfl, _, rfl, goB (fun _ => ?_) fun _ => ?_⟩
    · refine ⟨_, rfl, a2, _, rfl, SqT.of (gr3 _ _ h2), fun t ht => ?_⟩
      refine q _ _ l.reverse (k13.trans (kp_same (same_new ht))) (p3.same (same_new ht)) ((List.reverse_perm l).trans pm) ⟨t, rfl, ?_⟩
      rw [upd_same, List.map_reverse]
    refine ⟨_, rfl, rfl, _, rfl, goB (fun _ => ?_) fun _ => ?_⟩
    · exact ⟨_, rfl, _, rfl, p, a1, .t, b, rfl, p3, gr3 _ _ h1, m12, fun H4 v os k4 p4 pm4 row => q H4 v os (k13.trans k4) p4 pm4 row⟩
    refine ⟨_, rfl, rfl, _, rfl, goB (fun _ => ?_) fun _ => ?_⟩
    · exact ⟨_, rfl, q _ _ b k13 p3 (List.Perm.refl b) ⟨a1, rfl, gr3 _ _ h1⟩⟩
    refine ⟨fun σ' H' => ∃ j : Nat, σ' = [some (.ref p), some (.ref a1), some (.ref a2), some (.int (r1 : Nat)), some (.int (r2 : Nat)), some (.int (j : Nat)), none] ∧ H' = H3 ∧ j < b.length, ?_, ?_⟩
    · refine ⟨_, rfl, rfl, _, rfl, goB (fun _ => ?_) fun _ => ⟨r3, rfl, rfl, by omega⟩⟩
      refine ⟨_, rfl, _, _, rfl, rfl, _, _, rfl, ?_⟩
      refine ⟨r2 - 1, ?_, rfl, by omega⟩
      have e : (if ((r2 : Nat) : Int) - 1 > 0 then ((r2 : Nat) : Int) - 1 else 0) = ((r2 - 1 : Nat) : Int) := by split <;> omega
      rw [e]
      rfl
    · rintro _ _ ⟨j, rfl, rfl, jl⟩
      have lk : r2 < l.length := by omega
      have lj : j < l.length := by omega
      refine ⟨_, rfl, a2, _, rfl, .inr (SqT.of (gr3 _ _ h2)), fun fl hfl => ?_⟩
      have nfp : fl ≠ p := p3.ne hfl
      have g4 := same_new (o := .lst (l.map V.str)) hfl
      have e1 : (l.map V.str)[j]? = some (V.str l[j]) := by rw [List.getElem?_map, List.getElem?_eq_getElem lj]; rfl
      have e2 : (l.map V.str)[r2]? = some (V.str l[r2]) := by rw [List.getElem?_map, List.getElem?_eq_getElem lk]; rfl
      have i1 : ixN (l.map V.str).length ((r2 : Nat) : Int) = some r2 := by unfold ixN; rw [if_pos (by omega), if_pos (by rw [List.length_map]; omega)]; rfl
      have i2 : ixN ((l.map V.str).set r2 (V.str l[j])).length ((j : Nat) : Int) = some j := by unfold ixN; rw [if_pos (by omega), if_pos (by rw [List.length_set, List.length_map]; omega)]; rfl
      refine ⟨_, rfl, _, rfl, a2, _, _, _, rfl, rfl, SqT.of (g4 _ _ (gr3 _ _ h2)), atI_nat e1, _, rfl, _, rfl, a2, _, _, _, rfl, rfl, SqT.of (g4 _ _ (gr3 _ _ h2)), atI_nat e2, (by show 2 ≤ sizeLine; decide), fun t ht => ?_⟩
      have g5 := same_new (o := .tup [V.str l[j], V.str l[r2]]) ht
      refine ⟨t, _, rfl, SqT.of upd_same, rfl, _, _, rfl, _, rfl, _, rfl, fl, _, _, r2, rfl, rfl, g5 _ _ upd_same, i1, _, _, rfl, _, rfl, _, rfl, fl, _, _, j, rfl, rfl, upd_same, i2, rfl, ?_⟩
      refine ⟨_, rfl, fl, _, rfl, .inl ⟨SqL.of upd_same, fun t2 ht2 => ?_⟩⟩
      refine q _ _ ((l.set r2 l[j]).set j l[r2]) ?_ ?_ ((List.set_set_perm lk lj).trans pm) ⟨t2, rfl, ?_⟩
      · exact (kp_again (kp_again (k13.trans (kp_same (g4.trans g5))) (k13.free hp.choose_spec.choose_spec.choose_spec.1 hfl nfp)) (k13.free hp.choose_spec.choose_spec.choose_spec.1 hfl nfp)).trans (kp_same (same_new ht2))
      · exact (((p3.same (g4.trans g5)).put nfp).put nfp).same (same_new ht2)
      · rw [upd_same, List.map_set, List.map_set]

def spMirror : Sp := fun vs H Q _ => ∃ ks : List Bool, vs = [.str (wordOf ks)] ∧ ks.length ≤ 100 ∧ ∀ H', Same H H' → Q (.str (wordOf (ks.map not))) H'
theorem ca_l_mirror (T : Tx K mg aK) (D : Df K mg "_law_mirror" s_l_mirror) : Ca P w K mg base 1 "_law_mirror" spMirror := by
  refine ca_mk D sc_l_mirror (fun _ _ _ _ _ _ us hl => match us, hl with | [_], _ => rfl) (fun vs H Q E h => ?_) (fun f cdv A outer s H vs Q E hr h => ?_)
  · obtain ⟨_, rfl, _⟩ := h
    rfl
  · obtain ⟨ks, rfl, len, q⟩ := h
    refine ⟨_, (pss_one (ps_ret (pe_join pe_str (pe_lc (own := [("_law_sort", 1)]) (g := gName 1) (tt := tYes) rfl sc_l_mirror.nd (pi_str (pv 0)) (blkOk_by (N := ["_law_spelt", "_law_sort"]) (sc := defScope s_l_mirror) (by decide +kernel)) (fun _ _ _ _ _ => (pg_name (i := 1) sc_l_mirror.nd rfl (.inl rfl))) (fun _ _ _ _ _ => pts_nil) (fun _ _ _ _ _ => (pe_ix (ix_listK K) (pe_lst (pa_cons pe_str (pa_cons pe_str pa_nil))) (pe_callTy call_int1 (by rfl) T.b_int (by decide +kernel) (pa_cons (pe_cmpR op_eq (pv 1) pe_str (nomark _)) pa_nil)) (fun _ _ => rfl))))))), ?_⟩
    have wl := word_len ks
    refine ⟨⟨_, rfl⟩, _, rfl, _, rfl, fun l hl => ?_⟩
    refine lc_it (n := (wordOf ks).cps.size) (walk_str (z := wordOf ks)) (fun i H1 => Same H H1 ∧ H1 l = some (.lst ((((ks.take i).map not).map kw).map V.str)))
      ⟨same_new hl, upd_same⟩ (fun _ _ _ _ => trivial) ?_ ?_
    · rintro i x H0 H1 hi ⟨s1, hl1⟩ ⟨rfl, c, hc, rfl⟩
      have hi' : i < ks.length := by rw [← wl]; exact hi
      have ec : (⟨#[c]⟩ : Str) = kw ks[i] := by
        rw [kw_cps]
        have e : (wordOf ks).cps[i]? = some (if ks[i] = true then 84 else 83) := by
          show ((ks.map fun k => if k = true then 84 else 83).toArray)[i]? = _
          simp [hi']
        rw [e] at hc
        cases hc
        rfl
      rw [ec]
      have tk : ks.take (i + 1) = ks.take i ++ [ks[i]] := List.take_succ_eq_append_getElem hi'
      have isS : decide (V.str (kw ks[i]) = V.str "S") = !ks[i] := by cases ks[i] <;> decide +kernel
      have lt : (ks.take i).length ≤ 100 := by
        have := List.length_take_le i ks
        omega
      refine ⟨rfl, (by show 2 ≤ sizeLine; decide), fun m hm => ⟨_, rfl, rfl, .inr ⟨_, rfl, m, _, _, .str (kw (!ks[i])), rfl, rfl, SqL.of upd_same, ?_, ?_⟩⟩⟩
      · rw [isS]
        cases ks[i]
        · exact atI_nat (j := 1) rfl
        · exact atI_nat (j := 0) rfl
      · refine ⟨_, same_new hm _ _ hl1, szl (by rw [List.length_map, List.length_map, List.length_map]; omega), same_again (s1.trans (same_new hm)) hl, ?_⟩
        rw [upd_same, tk, List.map_append, List.map_append, List.map_append]
        rfl
    · rintro H1 ⟨s1, hl1⟩
      have e : (wordOf ks).cps.size = ks.length := wl
      rw [e, List.take_length] at hl1
      refine ⟨_, l, _, rfl, rfl, .inl (SqL.of hl1), ?_, ?_⟩
      · rw [sum_kw, List.length_map]
        show _ + _ * 0 ≤ _
        omega
      · rw [join_kw]
        exact q _ s1
end
end LP

set_option Elab.async false
set_option linter.all false
set_option maxRecDepth 100000
set_option maxHeartbeats 4000000
/-! LpD10: doubles, seen. -/
namespace LP
open PySem PySem.Spec PyProof.Rows L2
theorem word_append (a b : List Bool) : wordOf a ++ wordOf b = wordOf (a ++ b) := by
  apply congrArg Str.mk
  show (a.map fun k => if k = true then 84 else 83).toArray ++ (b.map fun k => if k = true then 84 else 83).toArray = _
  simp
theorem kw_word (k : Bool) : kw k = wordOf [k] := kw_cps k
theorem word_at {ks : List Bool} {i : Nat} {k : Bool} (h : ks[i]? = some k) : (wordOf ks).cps.toList[i]? = some (if k = true then 84 else 83) := by
  show ((ks.map fun k => if k = true then 84 else 83).toArray).toList[i]? = _
  simp [h]
theorem withKinds_push {A : Type} [DecidableEq A] : ∀ {ds : List (Dbl A)} {ks : List Bool} (d : Dbl A) (k : Bool), ks.length = ds.length → withKinds (ds ++ [d]) (ks ++ [k]) = withKinds ds ks ++ [(d.1, k, d.2)]
  | [], [], d, k, _ => rfl
  | [], _ :: _, d, k, h => by simp at h
  | _ :: _, [], d, k, h => by simp at h
  | (b, l) :: ds, k0 :: ks, d, k, h => by
    show (b, k0, l) :: withKinds (ds ++ [d]) (ks ++ [k]) = (b, k0, l) :: withKinds ds ks ++ [(d.1, k, d.2)]
    rw [withKinds_push d k (by simpa using h)]
    rfl
theorem atI_0 {A : Type} {xs : List A} {j : Nat} {v : A} (h : xs[j]? = some v) : atI xs (0 + ((j : Nat) : Int)) = some v := by
  rw [Int.zero_add]
  exact atI_nat h
def DblsAt (H : Hp) (v : V) (ds : List (Dbl Str)) : Prop := ∃ a ys, v = .ref a ∧ H a = some (.tup ys) ∧ Each (PairAt H) ys ds
theorem DblsAt.gr {H H' : Hp} {v : V} {ds : List (Dbl Str)} (h : DblsAt H v ds) (g : Gr H H') : DblsAt H' v ds := by
  obtain ⟨a, ys, e, h, z⟩ := h
  exact ⟨a, ys, e, g _ _ h, z.mono fun v x r => r.gr g⟩
section
variable {P : Program} {w : World} {K : PySem.W.Frag} {mg : Str → Option Value} {base : Heap} {aK : Addr}
def Spelt (sv : V) (ds : List (Dbl Str)) : Prop := sv = .non ∨ ∃ ks, sv = .str (wordOf ks) ∧ ks.length = ds.length ∧ Expl (withKinds ds ks)
def spDoubles : Sp := fun vs H Q _ => ∃ (p a : Addr) (names : List Str), vs = [.ref p, .ref a] ∧ PoolAt H p ∧ H a = some (.lst (names.map V.str)) ∧ RowOk names ∧
  ∀ H' t dv sv ds, Kp p H H' → PoolAt H' p → H' t = some (.tup [dv, sv]) → DblsAt H' dv ds → DblsOk names ds → Spelt sv ds → Q (.ref t) H'
theorem ca_l_doubles (T : Tx K mg aK) (D : Df K mg "_law_doubles" s_l_doubles) (c_l_draw : Ca P w K mg base 1 "_law_draw" spDraw) (c_l_mixed : Ca P w K mg base 2 "_law_mixed" spMixed) (c_l_later : Ca P w K mg base 1 "_law_later" spLater)
    (c_l_ranked : Ca P w K mg base 1 "_law_ranked" spRanked) (c_l_changed : Ca P w K mg base 3 "_law_changed" spChanged) : Ca P w K mg base 4 "_law_doubles" spDoubles := by
  refine ca_mk D sc_l_doubles (fun _ _ _ _ _ _ us hl => match us, hl with | [_, _], _ => rfl) (fun vs H Q E h => ?_) (fun f cdv A outer s H vs Q E hr h => ?_)
  · obtain ⟨_, _, _, rfl, _⟩ := h
    rfl
  · obtain ⟨p, a, names, rfl, hp, ha, ok, q⟩ := h
    have m12 := ok.most
    have nap : a ≠ p := hp.neStr ha
    refine ⟨_, (pss_cons (ps_asg (pe_tup (pa_cons (pe_ca c_l_mixed hr (by decide) rfl (pa_cons (pv 0) (pa_cons (pv 1) pa_nil))) (pa_cons (pe_ca c_l_mixed hr (by decide) rfl (pa_cons (pv 0) (pa_cons (pv 1) pa_nil))) (pa_cons (pe_lst pa_nil) (pa_cons pe_str pa_nil))))) (pg_tup rfl (pgs_cons (pg_name (i := 2) sc_l_doubles.nd rfl (.inl rfl)) (pgs_cons (pg_name (i := 3) sc_l_doubles.nd rfl (.inl rfl)) (pgs_cons (pg_name (i := 4) sc_l_doubles.nd rfl (.inl rfl)) (pgs_cons (pg_name (i := 5) sc_l_doubles.nd rfl (.inl rfl)) pgs_nil))))))
    (pss_cons (ps_for PassesOwn.never rfl (pi_range1 rfl T.b_range (pa_cons (pe_op op_add pe_int (pe_ca c_l_draw hr (by decide) rfl (pa_cons (pv 0) (pa_cons pe_int pa_nil)))) pa_nil)) (pg_name (i := 6) sc_l_doubles.nd rfl (.inl rfl)) (pss_cons (ps_set (i := 5) sc_l_doubles.nd rfl (.inl rfl) (pe_op op_add_str (pv 5) (pe_ix ix_list (pe_lst (pa_cons pe_str (pa_cons pe_str pa_nil))) (pe_ca c_l_draw hr (by decide) rfl (pa_cons (pv 0) (pa_cons pe_int pa_nil))) (fun _ _ => rfl))))
    (pss_cons (ps_set (i := 7) sc_l_doubles.nd rfl (.inl rfl) (pe_ca c_l_later hr (by decide) rfl (pa_cons (pv 3) (pa_cons (pe_ix ix_str (pv 5) (pe_un un_neg pe_int) (fun _ _ => rfl)) (pa_cons (pe_ca c_l_ranked hr (by decide) rfl (pa_cons (pv 2) pa_nil)) pa_nil)))))
    (pss_cons (ps_expr (pe_bm PySem.F.plainAttrs_list PySem.F.slot_list_append PySem.F.type_list_append mt_append (pv 4) (pa_cons (pe_tup (pa_cons (pv 3) (pa_cons (pv 7) pa_nil))) pa_nil)))
    (pss_one (ps_set (i := 3) sc_l_doubles.nd rfl (.inl rfl) (pe_ifExp (pt_cmpR op_eq (pe_ca c_l_draw hr (by decide) rfl (pa_cons (pv 0) (pa_cons pe_int pa_nil))) pe_int (nomark _)) (pv 7) (pe_ca c_l_mixed hr (by decide) rfl (pa_cons (pv 0) (pa_cons (pv 1) pa_nil))))))))))
    (pss_mid (ps_if (pt_cmpR op_eq (pe_ca c_l_draw hr (by decide) rfl (pa_cons (pv 0) (pa_cons pe_int pa_nil))) pe_int (nomark _)) (pss_cons (ps_par rfl sc_l_doubles.nd (i := 8) (j := 5) rfl rfl (by decide) rfl rfl (pa_cons (pe_ca c_l_draw hr (by decide) rfl (pa_cons (pv 0) (pa_cons (pe_callB call_len_seq (by rfl) T.b_len (by decide +kernel) (pa_cons (pv 4) pa_nil)) pa_nil))) (pa_cons pe_non pa_nil)) rfl)
    (pss_one (ps_asg (pe_tup (pa_cons (pe_ix ix_tup (pe_ix ix_list (pv 4) (pv 8) (fun _ _ => rfl)) pe_int (fun _ _ => rfl)) (pa_cons (pe_ca c_l_changed hr (by decide) rfl (pa_cons (pv 0) (pa_cons (pe_ix ix_tup (pe_ix ix_list (pv 4) (pv 8) (fun _ _ => rfl)) pe_int (fun _ _ => rfl)) (pa_cons (pe_ix ix_tup (pe_ix ix_list (pv 4) (pv 8) (fun _ _ => rfl)) pe_int (fun _ _ => rfl)) pa_nil)))) pa_nil))) (pg_sub (pv 4) (pv 8) set_list)))) pss_nil)
    (pss_one (ps_ret (pe_tup (pa_cons (pe_callTy call_tuple_of (by rfl) T.b_tuple (by decide +kernel) (pa_cons (pv 4) pa_nil)) (pa_cons (pv 5) pa_nil)))))))), ?_⟩
    refine ⟨_, rfl, _, rfl, p, a, .l, names, rfl, hp, ha, m12, fun H1 hv hid k1 p1 pmh hrow => ?_⟩
    refine ⟨_, rfl, _, rfl, p, a, .l, names, rfl, p1, k1 _ _ nap ha, m12, fun H2 lv line k2 p2 pml lrow => ?_⟩
    have hrow2 := hrow.gr (p1.gr k2)
    have k12 := k1.trans k2
    refine ⟨Nat.zero_le _, fun fl hfl => ⟨(by show 4 ≤ sizeLine; decide), fun t ht => ⟨t, _, rfl, SqT.of upd_same, rfl, _, _, rfl, _, _, rfl, _, _, rfl, _, _, rfl, rfl, ?_⟩⟩⟩
    have s3 := same_new (o := .lst []) hfl
    have s4 := same_new (o := .tup [hv, lv, .ref fl, .str ""]) ht
    have nfp : fl ≠ p := p2.ne hfl
    have fl0 : H fl = none := k12.free hp.choose_spec.choose_spec.choose_spec.1 hfl nfp
    have ndh : hid.Nodup := pmh.nodup_iff.mpr ok.nd
    have lhid : hid.length ≤ 12 := by rw [pmh.length_eq]; exact m12
    refine ⟨_, rfl, p, 20, rfl, p2.same (s3.trans s4), by decide, by decide, fun H5 r5 k5 p5 lt5 => ⟨_, _, rfl, rfl, _, rfl, (by omega), (by omega), for_it (n := 1 + r5) walk_range
      (fun i σ H1 => ∃ (lv' : V) (u6 u7 : Option V) (ys : List V) (ds : List (Dbl Str)) (ks : List Bool) (line' : List Str), σ = [some (.ref p), some (.ref a), some hv, some lv', some (.ref fl), some (.str (wordOf ks)), u6, u7, none] ∧ Kp p H H1 ∧ PoolAt H1 p ∧ RowAt H1 hv hid ∧
        RowAt H1 lv' line' ∧ line'.Perm names ∧ H1 fl = some (.lst ys) ∧ Each (PairAt H1) ys ds ∧ ds.length = i ∧ ks.length = i ∧ (∀ d ∈ ds, DblOk names d) ∧ ∀ z ∈ withKinds ds ks, Holds1 (rankOf hid) z)
      ⟨lv, none, none, [], [], [], line, rfl, (k12.trans (kp_same (s3.trans s4))).trans k5, p5, (hrow2.gr (gr_same (s3.trans s4))).gr ((p2.same (s3.trans s4)).gr k5), (lrow.gr (gr_same (s3.trans s4))).gr ((p2.same (s3.trans s4)).gr k5), pml, k5 _ _ nfp (s4 _ _ upd_same), Each.nil, rfl, rfl,
        fun d h => (nomatch h), fun z h => (nomatch h)⟩ (fun _ _ _ _ _ => trivial) ?_ ?_⟩⟩
    · rintro i _ σ H0 H1 hi ⟨lv', u6, u7, ys, ds, ks, line', rfl, k1', p1', hrow', lrow', pml', hf, each, lds, lks, dok, hold⟩ ⟨rfl, rfl⟩
      refine ⟨_, rfl, (by show 2 ≤ sizeLine; decide), fun m hm => ⟨_, rfl, p, 2, rfl, p1'.same (same_new hm), by decide, by decide, fun H3 r k3 p3 lt => ?_⟩⟩
      have sm := same_new (o := .lst [V.str "S", V.str "T"]) hm
      have nmp : m ≠ p := p1'.ne hm
      have gr3 : Gr H1 H3 := (gr_same sm).trans ((p1'.same sm).gr k3)
      have kp3 := (k1'.trans (kp_same sm)).trans k3
      obtain ⟨kk, hkk⟩ : ∃ kk : Bool, [V.str "S", V.str "T"][r]? = some (V.str (kw kk)) := by
        match r, lt with
        | 0, _ => exact ⟨false, rfl⟩
        | 1, _ => exact ⟨true, rfl⟩
      have rowOk' := ok.perm pml'
      have wl : (wordOf ks ++ kw kk) = wordOf (ks ++ [kk]) := by rw [kw_word, word_append]
      have wlen := word_len ks
      have wlen2 := word_len (ks ++ [kk])
      rw [List.length_append, List.length_singleton] at wlen2
      refine ⟨m, _, _, _, rfl, rfl, SqL.of (k3 _ _ nmp upd_same), atI_nat hkk, _, _, rfl, rfl, sz (by rw [wlen, kw_len]; omega), ?_⟩
      have atw : atI (wordOf ks ++ kw kk).cps.toList (-1) = some (if kk = true then 84 else 83) := by
        rw [wl]
        have e : (wordOf (ks ++ [kk])).cps.toList = (ks.map fun k => if k = true then 84 else 83) ++ [if kk = true then 84 else 83] := by
          show (((ks ++ [kk]).map fun k => if k = true then 84 else 83).toArray).toList = _
          simp
        rw [e]
        exact atI_last _ _
      refine ⟨_, rfl, _, rfl, _, rfl, _, _, _, rfl, rfl, sz (by rw [wl, wlen2]; omega), atw, ?_⟩
      refine ⟨_, rfl, hv, hid, rfl, hrow'.gr gr3, ndh, lhid, fun H4 d s4 rk => ?_⟩
      refine ⟨lv', kk, d, line', hid, by rw [kw_cps]; rfl, (lrow'.gr gr3).gr (gr_same s4), rowOk', fun x hx => pmh.symm.subset (pml'.subset hx), rk, fun H6 lv6 s6 row6 => ?_⟩
      have hf6 := s6 _ _ (s4 _ _ (k3 _ _ nfp (sm _ _ hf)))
      have gr6 : Gr H1 H6 := gr3.trans ((gr_same s4).trans (gr_same s6))
      refine ⟨_, rfl, .inl ⟨rfl, _, SqL.of hf6⟩, _, rfl, _, rfl, (by show 2 ≤ sizeLine; decide), fun e he => ⟨fl, _, _, rfl, rfl, same_new he _ _ hf6, szl (by rw [each.1]; omega), ?_⟩⟩
      have se := same_new (o := .tup [lv', lv6]) he
      have nef : e ≠ fl := (ne_of_none hf6 he).symm
      have p7 : PoolAt (upd (upd H6 e (.tup [lv', lv6])) fl (.lst (ys ++ [.ref e]))) p := ((p3.same (s4.trans s6)).same se).put nfp
      have gr67 : Gr H6 (upd (upd H6 e (.tup [lv', lv6])) fl (.lst (ys ++ [.ref e]))) := (gr_same se).trans (gr_lst (se _ _ hf6))
      have kp7 : Kp p H (upd (upd H6 e (.tup [lv', lv6])) fl (.lst (ys ++ [.ref e]))) := kp_again ((kp3.trans (kp_same (s4.trans s6))).trans (kp_same se)) fl0
      have holdn : Holds1 (rankOf hid) (line', kk, lateRow kk (rankOf hid) line') := lateRow_holds (fun z => by have := rowOk'.two; rw [z] at this; simp at this) rowOk'.nd fun x hx => pmh.symm.subset (pml'.subset hx)
      have fin : ∀ Hn lvn linen, Kp p (upd (upd H6 e (.tup [lv', lv6])) fl (.lst (ys ++ [.ref e]))) Hn → PoolAt Hn p → RowAt Hn lvn linen → linen.Perm names →
          ∃ (lv'' : V) (u6 u7 : Option V) (ys' : List V) (ds' : List (Dbl Str)) (ks' : List Bool) (line'' : List Str), [some (V.ref p), some (.ref a), some hv, some lvn, some (.ref fl), some (.str (wordOf ks ++ kw kk)), some (.int (0 + (i : Nat))), some lv6, none] = [some (V.ref p), some (.ref a), some hv, some lv'', some (.ref fl), some (.str (wordOf ks')), u6, u7, none] ∧ Kp p H Hn ∧ PoolAt Hn p ∧ RowAt Hn hv hid ∧
            RowAt Hn lv'' line'' ∧ line''.Perm names ∧ Hn fl = some (.lst ys') ∧ Each (PairAt Hn) ys' ds' ∧ ds'.length = i + 1 ∧ ks'.length = i + 1 ∧ (∀ d ∈ ds', DblOk names d) ∧ ∀ z ∈ withKinds ds' ks', Holds1 (rankOf hid) z := fun Hn lvn linen kn pn rown pmn => by
        have grn := gr67.trans (p7.gr kn)
        refine ⟨lvn, _, _, ys ++ [.ref e], ds ++ [(line', lateRow kk (rankOf hid) line')], ks ++ [kk], linen, by rw [wl], kp7.trans kn, pn, hrow'.gr (gr6.trans grn), rown, pmn, kn _ _ nfp upd_same, ?_, by simp [lds], by simp [lks], fun d hd => ?_, fun z hz => ?_⟩
        · refine (each.mono fun v x h => h.gr (gr6.trans grn)).push ⟨e, lv', lv6, rfl, p7.gr kn _ _ (by rw [upd_ne nef, upd_same]), lrow'.gr (gr6.trans grn), row6.gr grn⟩
        · rcases List.mem_append.mp hd with h | h
          · exact dok d h
          · rw [List.mem_singleton.mp h]
            exact ⟨pml', (lateRow_perm kk (rankOf hid) line').trans pml'⟩
        · rw [withKinds_push _ _ (by rw [lks, lds])] at hz
          rcases List.mem_append.mp hz with h | h
          · exact hold z h
          · rw [List.mem_singleton.mp h]
            exact holdn
      refine ⟨_, rfl, p, 2, rfl, p7, by decide, by decide, fun H8 r8 k8 p8 _ => ⟨rfl, _, rfl, goB (fun _ => ?_) fun _ => ?_⟩⟩
      · exact ⟨_, rfl, fin H8 lv6 _ k8 p8 (row6.gr (gr67.trans (p7.gr k8))) ((lateRow_perm kk (rankOf hid) line').trans pml')⟩
      · exact ⟨_, rfl, _, rfl, p, a, .l, names, rfl, p8, (kp7.trans k8) _ _ nap ha, m12, fun H9 lv9 line9 k9 p9 pm9 row9 => fin H9 lv9 line9 (k8.trans k9) p9 row9 pm9⟩
    · rintro σ H1 ⟨lv', u6, u7, ys, ds, ks, line', rfl, k1', p1', hrow', lrow', pml', hf, each, lds, lks, dok, hold⟩
      refine ⟨fun σ' H' => ∃ (sv : V) (u8 : Option V) (ys : List V) (ds : List (Dbl Str)), σ' = [some (.ref p), some (.ref a), some hv, some lv', some (.ref fl), some sv, u6, u7, u8] ∧ Kp p H H' ∧ PoolAt H' p ∧ H' fl = some (.lst ys) ∧ Each (PairAt H') ys ds ∧ DblsOk names ds ∧ Spelt sv ds, ?_, ?_⟩
      · refine ⟨_, rfl, p, 4, rfl, p1', by decide, by decide, fun H3 r3 k3 p3 _ => ⟨rfl, _, rfl, goB (fun _ => ?_) fun _ => ?_⟩⟩
        · have hf3 := k3 _ _ nfp hf
          have each3 := each.mono fun v x h => h.gr (p1'.gr k3)
          refine ⟨_, rfl, _, rfl, fl, _, rfl, .inl (SqL.of hf3), p, _, rfl, p3, (by rw [each.1]; omega), (by rw [each.1]; omega), fun H4 r4 k4 p4 lt4 => ⟨_, _, rfl, ?_⟩⟩
          have hf4 := k4 _ _ nfp hf3
          have each4 := each3.mono fun v x h => h.gr (p3.gr k4)
          have lt4' : r4 < ys.length := by omega
          obtain ⟨y, hy⟩ : ∃ y, ys[r4]? = some y := ⟨_, List.getElem?_eq_getElem lt4'⟩
          obtain ⟨d, hd, b, x1, x2, rfl, hb, r1', r2'⟩ := each4.get hy
          have md := List.mem_of_getElem? hd
          refine ⟨_, rfl, _, rfl, fl, _, _, _, rfl, rfl, SqL.of hf4, atI_nat hy, b, _, _, _, rfl, rfl, SqT.of hb, atI_nat (j := 0) rfl, ?_⟩
          refine ⟨_, rfl, _, rfl, _, rfl, fl, _, _, _, rfl, rfl, SqL.of hf4, atI_nat hy, b, _, _, _, rfl, rfl, SqT.of hb, atI_nat (j := 0) rfl, _, rfl, _, rfl, fl, _, _, _, rfl, rfl, SqL.of hf4, atI_nat hy, b, _, _, _, rfl, rfl, SqT.of hb, atI_nat (j := 1) rfl, ?_⟩
          have dk := dok d md
          refine ⟨p, x1, x2, d.1, d.2, rfl, p4, r1', r2', dk.snd.trans dk.fst.symm, ok.perm dk.fst, fun H5' v5 os k5' p5' pm5 row5 => ⟨(by show 2 ≤ sizeLine; decide), fun e he => ?_⟩⟩
          have hf5 := k5' _ _ nfp hf4
          have se := same_new (o := .tup [x1, v5]) he
          have nef : e ≠ fl := (ne_of_none hf5 he).symm
          have gr5 := p4.gr k5'
          have i1 : ixN ys.length ((r4 : Nat) : Int) = some r4 := by unfold ixN; rw [if_pos (by omega), if_pos (by omega)]; rfl
          refine ⟨_, rfl, _, rfl, fl, _, _, r4, rfl, rfl, se _ _ hf5, i1, ?_⟩
          have gr6 : Gr H5' (upd (upd H5' e (.tup [x1, v5])) fl (.lst (ys.set r4 (.ref e)))) := (gr_same se).trans (gr_lst (se _ _ hf5))
          refine ⟨.non, _, _, ds.set r4 (d.1, os), rfl, kp_again ((((k1'.trans k3).trans k4).trans k5').trans (kp_same se)) fl0, (p5'.same se).put nfp, upd_same, ?_, ⟨?_, ?_, ok, fun d' hd' => ?_⟩, .inl rfl⟩
          · exact (each4.mono fun v x h => h.gr (gr5.trans gr6)).set ⟨e, x1, v5, rfl, by rw [upd_ne nef, upd_same], r1'.gr (gr5.trans gr6), row5.gr gr6⟩
          · rw [List.length_set]; omega
          · rw [List.length_set]; omega
          · rcases List.mem_or_eq_of_mem_set hd' with h | h
            · exact dok d' h
            · rw [h]
              exact ⟨dk.fst, pm5.trans dk.fst⟩
        · exact ⟨_, _, ys, ds, rfl, k1'.trans k3, p3, k3 _ _ nfp hf, each.mono fun v x h => h.gr (p1'.gr k3), ⟨by omega, by omega, ok, dok⟩, .inr ⟨ks, rfl, by omega, ⟨_, hold⟩⟩⟩
      · rintro _ H3 ⟨sv, u8, ys, ds, rfl, k3, p3, hf3, each3, dok3, sp3⟩
        refine ⟨_, rfl, fl, _, rfl, .inl ⟨SqL.of hf3, fun t1 ht1 => ⟨_, rfl, (by show 2 ≤ sizeLine; decide), fun t2 ht2 => ?_⟩⟩⟩
        have g1 := same_new (o := .tup ys) ht1
        have g2 := same_new (o := .tup [.ref t1, sv]) ht2
        exact q _ t2 (.ref t1) sv ds (k3.trans (kp_same (g1.trans g2))) (p3.same (g1.trans g2)) upd_same ⟨t1, ys, rfl, g2 _ _ upd_same, each3.mono fun v x h => h.gr (gr_same (g1.trans g2))⟩ dok3 sp3
def spSeen : Sp := fun vs H Q _ => ∃ (v : V) (ds : List (Dbl Str)) (ks : List Bool), vs = [v, .str (wordOf ks)] ∧ DblsAt H v ds ∧ ks.length = ds.length ∧ ds.length ≤ 20 ∧ ∀ H' a ys, Same H H' → H' a = some (.tup ys) → Each (RecAt H') ys (withKinds ds ks) → Q (.ref a) H'
theorem ca_l_seen (T : Tx K mg aK) (D : Df K mg "_law_seen" s_l_seen) : Ca P w K mg base 1 "_law_seen" spSeen := by
  refine ca_mk D sc_l_seen (fun _ _ _ _ _ _ us hl => match us, hl with | [_, _], _ => rfl) (fun vs H Q E h => ?_) (fun f cdv A outer s H vs Q E hr h => ?_)
  · obtain ⟨_, _, _, rfl, _⟩ := h
    rfl
  · obtain ⟨v, ds, ks, rfl, ⟨a, ys, rfl, ha, each⟩, lk, l20, q⟩ := h
    refine ⟨_, (pss_one (ps_ret (pe_callTy call_tuple_of (by rfl) T.b_tuple (by decide +kernel) (pa_cons (pe_lc (own := [("_law_k", 2)]) (g := gName 2) (tt := tYes) rfl sc_l_seen.nd (pi_range1 rfl T.b_range (pa_cons (pe_callB call_len_str (by rfl) T.b_len (by decide +kernel) (pa_cons (pv 1) pa_nil)) pa_nil)) (blkOk_by (N := ["_law_doubles_here", "_law_spelt", "_law_k"]) (sc := defScope s_l_seen) (by decide +kernel)) (fun _ _ _ _ _ => (pg_name (i := 2) sc_l_seen.nd rfl (.inl rfl))) (fun _ _ _ _ _ => pts_nil) (fun _ _ _ _ _ => (pe_tup (pa_cons (pe_ix (ix_tupK K) (pe_ix (ix_tupK K) (pv 0) (pv 2) (fun _ _ => rfl)) pe_int (fun _ _ => rfl)) (pa_cons (pe_ix ix_str (pv 1) (pv 2) (fun _ _ => rfl)) (pa_cons (pe_ix (ix_tupK K) (pe_ix (ix_tupK K) (pv 0) (pv 2) (fun _ _ => rfl)) pe_int (fun _ _ => rfl)) pa_nil)))))) pa_nil)))), ?_⟩
    have wl := word_len ks
    refine ⟨_, rfl, _, rfl, sz (by omega), _, rfl, (by omega), (by omega), fun l hl => ?_⟩
    have lw := withKinds_len lk
    refine lc_it (n := (wordOf ks).length) walk_range (fun i H1 => ∃ vs : List V, Same H H1 ∧ H1 l = some (.lst vs) ∧ Each (RecAt H1) vs ((withKinds ds ks).take i))
      ⟨[], same_new hl, upd_same, Each.nil⟩ (fun _ _ _ _ => trivial) ?_ ?_
    · rintro i _ H0 H1 hi ⟨vs, s1, hl1, e1⟩ ⟨rfl, rfl⟩
      have hik : i < ks.length := by omega
      have hiy : i < ys.length := by rw [each.1]; omega
      have hy := List.getElem?_eq_getElem hiy
      obtain ⟨d, hd, pd⟩ := each.get hy
      obtain ⟨b, x1, x2, eb, hb, r1, r2⟩ := pd.gr (gr_same s1)
      have hk := List.getElem?_eq_getElem hik
      have hrec := withKinds_get hd hk
      have hiw : i < (withKinds ds ks).length := by omega
      have tk : (withKinds ds ks).take (i + 1) = (withKinds ds ks).take i ++ [(d.1, ks[i], d.2)] := by
        rw [List.take_succ_eq_append_getElem hiw]
        rw [List.getElem?_eq_getElem hiw] at hrec
        rw [Option.some.inj hrec]
      rw [eb] at hy
      refine ⟨rfl, _, rfl, _, rfl, a, _, _, _, rfl, rfl, SqT.of (s1 _ _ ha), atI_0 hy, b, _, _, _, rfl, rfl, SqT.of hb, atI_nat (j := 0) rfl, _, rfl, _, rfl, _, _, _, rfl, rfl, sz (by omega), atI_0 (word_at hk), _, rfl, _, rfl, a, _, _, _, rfl, rfl, SqT.of (s1 _ _ ha), atI_0 hy, b, _, _, _, rfl, rfl, SqT.of hb, atI_nat (j := 1) rfl, (by show 3 ≤ sizeLine; decide), fun e he => ?_⟩
      have se := same_new (o := .tup [x1, V.str ⟨#[if ks[i] = true then 84 else 83]⟩, x2]) he
      have nel : e ≠ l := (ne_of_none hl1 he).symm
      have gr2 := (gr_same se).trans (gr_lst (o := .lst (vs ++ [.ref e])) (se _ _ hl1))
      refine ⟨_, se _ _ hl1, szl (by rw [e1.1]; have := List.length_take_le i (withKinds ds ks); omega), vs ++ [.ref e], same_again (s1.trans se) hl, upd_same, ?_⟩
      rw [tk]
      refine (e1.mono fun v x h => h.gr gr2).push ⟨e, x1, x2, rfl, ?_, r1.gr gr2, r2.gr gr2⟩
      rw [upd_ne nel, upd_same, kw_cps]
    · rintro H1 ⟨vs, s1, hl1, e1⟩
      rw [wl, lk, ← lw, List.take_length] at e1
      exact ⟨l, _, rfl, .inl ⟨SqL.of hl1, fun t ht => q _ t vs (s1.trans (same_new ht)) upd_same (e1.mono fun v x h => h.gr (gr_new ht))⟩⟩
end
end LP

set_option Elab.async false
set_option linter.all false
set_option maxRecDepth 100000
set_option maxHeartbeats 4000000
/-! LpD11: by_ends, word_right. -/
namespace LP
open PySem PySem.Spec PyProof.Rows L2
theorem cut_to (ks : List Bool) (j : Nat) : cutS (wordOf ks) none (some ((j : Nat) : Int)) = wordOf (ks.take j) := by
  have e : (wordOf ks).cps.toList = ks.map fun k => if k = true then 84 else 83 := by
    show ((ks.map fun k => if k = true then 84 else 83).toArray).toList = _
    simp
  unfold cutS
  rw [HT.sIx_none, HT.sIx_nat, word_len, e, List.drop_zero, Nat.sub_zero]
  apply congrArg Str.mk
  apply congrArg List.toArray
  rw [← List.map_take]
  apply congrArg
  by_cases h : j ≤ ks.length
  · rw [Nat.min_eq_left h]
  · rw [Nat.min_eq_right (by omega), List.take_of_length_le (by omega), List.take_of_length_le (by omega)]
theorem cut_from (ks : List Bool) (j : Nat) : cutS (wordOf ks) (some ((j : Nat) : Int)) none = wordOf (ks.drop j) := by
  have e : (wordOf ks).cps.toList = ks.map fun k => if k = true then 84 else 83 := by
    show ((ks.map fun k => if k = true then 84 else 83).toArray).toList = _
    simp
  unfold cutS
  rw [HT.sIx_none, HT.sIx_nat, word_len, e]
  apply congrArg Str.mk
  apply congrArg List.toArray
  rw [← List.map_drop, List.take_of_length_le (by rw [List.length_map, List.length_drop]; omega)]
  apply congrArg
  by_cases h : j ≤ ks.length
  · rw [Nat.min_eq_left h]
  · rw [Nat.min_eq_right (by omega), List.drop_of_length_le (by omega), List.drop_of_length_le (by omega)]
theorem withKinds_at {A : Type} [DecidableEq A] {ds : List (Dbl A)} {ks : List Bool} {i : Nat} {z : Rec A} (l : ks.length = ds.length) (h : (withKinds ds ks)[i]? = some z) : ∃ d k, ds[i]? = some d ∧ ks[i]? = some k ∧ z = (d.1, k, d.2) := by
  have lt := (List.getElem?_eq_some_iff.mp h).1
  rw [withKinds_len l] at lt
  have e1 := List.getElem?_eq_getElem lt
  have e2 := List.getElem?_eq_getElem (l := ks) (i := i) (by omega)
  exact ⟨_, _, e1, e2, Option.some.inj (h.symm.trans (withKinds_get e1 e2))⟩
section
variable {P : Program} {w : World} {K : PySem.W.Frag} {mg : Str → Option Value} {base : Heap} {aK : Addr}
def spByEnds : Sp := fun vs H Q _ => ∃ (v : V) (ds : List (Dbl Str)) (names : List Str), vs = [v] ∧ DblsAt H v ds ∧ DblsOk names ds ∧ ∀ H' v', Same H H' → RowAt H' v' (told ds) → Q v' H'
theorem ca_l_by_ends (T : Tx K mg aK) (D : Df K mg "_law_by_ends" s_l_by_ends) (c_find_order : Ca P w K mg base 7 "find_order" spFind) (c_l_seen : Ca P w K mg base 1 "_law_seen" spSeen) (c_l_mirror : Ca P w K mg base 1 "_law_mirror" spMirror) :
    Ca P w K mg base 8 "_law_by_ends" spByEnds := by
  refine ca_mk D sc_l_by_ends (fun _ _ _ _ _ _ us hl => match us, hl with | [_], _ => rfl) (fun vs H Q E h => ?_) (fun f cdv A outer s H vs Q E hr h => ?_)
  · obtain ⟨_, _, _, rfl, _⟩ := h
    rfl
  · obtain ⟨v, ds, names, rfl, ⟨a, ys, rfl, ha, each⟩, ok, q⟩ := h
    refine ⟨_, (pss_cons (ps_asg (pe_tup (pa_cons (pe_lst pa_nil) (pa_cons (pe_ix ix_tup (pe_ix ix_tup (pe_ix ix_tup (pv 0) pe_int (fun _ _ => rfl)) pe_int (fun _ _ => rfl)) (pe_un un_neg pe_int) (fun _ _ => rfl)) pa_nil))) (pg_tup rfl (pgs_cons (pg_name (i := 1) sc_l_by_ends.nd rfl (.inl rfl)) (pgs_cons (pg_name (i := 2) sc_l_by_ends.nd rfl (.inr rfl)) pgs_nil))))
    (pss_cons (ps_for PassesOwn.never rfl (pi_list (pe_lst (pa_cons pe_str (pa_cons pe_str pa_nil)))) (pg_name (i := 3) sc_l_by_ends.nd rfl (.inr rfl)) (pss_cons (ps_set (i := 4) sc_l_by_ends.nd rfl (.inl rfl) (pe_join pe_str (pe_lc (own := [("_law_line", 5), ("_law_later_here", 6)]) (g := gTup K 2 (gCons (gName 5) (gCons (gName 6) gNil))) (tt := tYes) rfl sc_l_by_ends.nd (pi_tup (pv 0)) (blkOk_by (N := ["_law_doubles_here", "_law_found", "_law_first", "_law_begin", "_law_spelt", "_law_line", "_law_later_here"]) (sc := defScope s_l_by_ends) (by decide +kernel)) (fun _ _ _ _ _ => (pg_tupK K 2 rfl (pgs_cons (pg_name (i := 5) sc_l_by_ends.nd rfl (.inl rfl)) (pgs_cons (pg_name (i := 6) sc_l_by_ends.nd rfl (.inl rfl)) pgs_nil)))) (fun _ _ _ _ _ => pts_nil) (fun _ _ _ _ _ => (pe_ifExp (pt_cmpR op_eq (pe_ix (ix_tupK K) (pv 6) (pe_un un_neg pe_int) (fun _ _ => rfl)) (pv 2) (nomark _)) (pv 3) (pe_ca c_l_mirror hr (by decide) rfl (pa_cons (pv 3) pa_nil)))))))
    (pss_one (ps_if (pt_cmpR op_notN (pe_ca c_find_order hr (by decide) rfl (pa_cons (pe_ca c_l_seen hr (by decide) rfl (pa_cons (pv 0) (pa_cons (pv 4) pa_nil))) pa_nil)) pe_non (nomark _)) (pss_one (ps_expr (pe_bm PySem.F.plainAttrs_list PySem.F.slot_list_append PySem.F.type_list_append mt_append (pv 1) (pa_cons (pv 4) pa_nil)))) pss_nil))))
    (pss_one (ps_ret (pe_callTy call_tuple_of (by rfl) T.b_tuple (by decide +kernel) (pa_cons (pv 1) pa_nil)))))), ?_⟩
    obtain ⟨d0, rest, rfl⟩ : ∃ d0 rest, ds = d0 :: rest := by
      cases ds with
      | nil => have := ok.one; simp at this
      | cons d r => exact ⟨d, r, rfl⟩
    obtain ⟨y0, hy0, p0, x0, l0, rfl, hp0, _, ⟨pl0, rfl, hpl0⟩⟩ := each.at (i := 0) (x := d0) rfl
    obtain ⟨z0, hz0⟩ := last_some ok.row.two (ok.ok d0 List.mem_cons_self).snd
    refine ⟨Nat.zero_le _, fun wl hwl => ?_⟩
    have g1 := same_new (o := .lst []) hwl
    refine ⟨_, rfl, a, _, _, _, rfl, rfl, SqT.of (g1 _ _ ha), atI_nat (j := 0) hy0, p0, _, _, _, rfl, rfl, SqT.of (g1 _ _ hp0), atI_nat (j := 1) rfl, _, rfl, pl0, _, _, _, rfl, rfl, SqT.of (g1 _ _ hpl0), atI_end hz0, (by show 2 ≤ sizeLine; decide), fun t ht => ⟨t, _, rfl, SqT.of upd_same, rfl, _, _, rfl, _, _, rfl, rfl, ?_⟩⟩
    have g2 := same_new (o := .tup [.ref wl, .str z0]) ht
    refine ⟨(by show 2 ≤ sizeLine; decide), fun m hm => ⟨m, rfl, ⟨_, SqL.of upd_same⟩, ?_⟩⟩
    have g3 := same_new (o := .lst [V.str "S", V.str "T"]) hm
    have g := g1.trans (g2.trans g3)
    refine for_it (n := 2) (walk_list (xs := [V.str "S", V.str "T"]))
      (fun i σ H2 => ∃ u3 u4 : Option V, σ = [some (.ref a), some (.ref wl), some (.str z0), u3, u4, none, none] ∧ Same H H2 ∧ H2 m = some (.lst [V.str "S", V.str "T"]) ∧ H2 wl = some (.lst ((([false, true].take i).flatMap (toldFor (d0 :: rest))).map V.str)) ∧ (([false, true].take i).flatMap (toldFor (d0 :: rest))).length ≤ i)
      ⟨none, none, rfl, g, upd_same, g3 _ _ (g2 _ _ upd_same), Nat.le_refl _⟩ (fun i σ H2 _ ⟨_, _, _, _, h, _⟩ => SqL.of h) ?_ ?_
    · rintro i x σ H1 H2 hi ⟨u3, u4, rfl, s2, hm2, hw2, len2⟩ ⟨rfl, hx⟩
      obtain ⟨first, ef, rfl⟩ : ∃ first : Bool, [false, true][i]? = some first ∧ x = .str (kw first) := by
        match i, hi with
        | 0, _ => cases hx; exact ⟨false, rfl, rfl⟩
        | 1, _ => cases hx; exact ⟨true, rfl, rfl⟩
      have tki : [false, true].take (i + 1) = [false, true].take i ++ [first] := by
        match i, hi with
        | 0, _ => cases ef; rfl
        | 1, _ => cases ef; rfl
      refine ⟨⟨_, rfl⟩, _, rfl, a, rfl, ⟨_, SqT.of (s2 _ _ ha)⟩, fun kl hkl => ?_⟩
      refine lc_it (n := ys.length) (walk_tup (xs := ys)) (fun j H3 => Same H2 H3 ∧ H3 kl = some (.lst ((((d0 :: rest).take j).map (kf first d0)).map fun k => V.str (kw k))))
        ⟨same_new hkl, upd_same⟩ (fun j H3 _ h => SqT.of (h.1 _ _ (s2 _ _ ha))) ?_ ?_
      · rintro j y H3 H3' hj ⟨s3, h3⟩ ⟨rfl, hy⟩
        have s23 := s2.trans s3
        obtain ⟨d, hd, pd⟩ := each.get hy
        obtain ⟨t', x1, y1, rfl, ht', _, ⟨pl, rfl, hpl⟩⟩ := pd.gr (gr_same s23)
        obtain ⟨z, hz⟩ := last_some ok.row.two (ok.ok d (List.mem_of_getElem? hd)).snd
        have hj2 : j < (d0 :: rest).length := by rw [← each.1]; exact hj
        have tkj : (d0 :: rest).take (j + 1) = (d0 :: rest).take j ++ [d] := by
          rw [List.take_succ_eq_append_getElem hj2]
          rw [List.getElem?_eq_getElem hj2] at hd
          rw [Option.some.inj hd]
        have fin : ∀ H4 k, Same H3' H4 → k = kf first d0 d → ∃ acc, H4 kl = some (HO.lst acc) ∧ acc.length < sizeLine ∧ Same H2 (upd H4 kl (.lst (acc ++ [.str (kw k)]))) ∧ upd H4 kl (.lst (acc ++ [.str (kw k)])) kl = some (.lst ((((d0 :: rest).take (j + 1)).map (kf first d0)).map fun k => V.str (kw k))) := by
          rintro H4 k s4 rfl
          refine ⟨_, s4 _ _ h3, szl ?_, same_again (s3.trans s4) hkl, ?_⟩
          · rw [List.length_map, List.length_map]
            have a1 := List.length_take_le j (d0 :: rest)
            have a2 := ok.most
            omega
          · rw [upd_same, tkj, List.map_append, List.map_append]
            rfl
        refine ⟨t', _, rfl, SqT.of ht', rfl, _, _, rfl, _, _, rfl, rfl, rfl, ?_⟩
        refine ⟨_, rfl, _, rfl, pl, _, _, _, rfl, rfl, SqT.of hpl, atI_end hz, ?_⟩
        refine ⟨_, rfl, rfl, _, rfl, ?_⟩
        refine goB (fun e => ?_) fun e => ?_
        · rw [str_is, decide_eq_true_eq] at e
          exact ⟨_, rfl, fin H3' first (Same.refl _) (by unfold kf; rw [hz, hz0, e, if_pos rfl])⟩
        · rw [str_is, decide_eq_false_iff_not] at e
          refine ⟨_, rfl, [first], by rw [kw_word]; rfl, (by show 1 ≤ 100; decide), fun H4 s4 => ?_⟩
          show ∃ acc, H4 kl = some (HO.lst acc) ∧ acc.length < sizeLine ∧ Same H2 (upd H4 kl (.lst (acc ++ [.str (wordOf [!first])]))) ∧ upd H4 kl (.lst (acc ++ [.str (wordOf [!first])])) kl = some (.lst ((((d0 :: rest).take (j + 1)).map (kf first d0)).map fun k => V.str (kw k)))
          rw [← kw_word]
          exact fin H4 (!first) s4 (by unfold kf; rw [hz, hz0, if_neg fun q => e (Option.some.inj q)])
      rintro H3 ⟨s3, h3⟩
      rw [each.1, List.take_length, ← kf_eq] at h3
      have s23 := s2.trans s3
      have lenK := kindsOf_len first (d0 :: rest)
      have h3' : H3 kl = some (.lst (((kindsOf first (d0 :: rest)).map kw).map V.str)) := by rw [h3, List.map_map]; rfl
      refine ⟨_, kl, _, rfl, rfl, .inl (SqL.of h3'), ?_, ?_⟩
      · rw [sum_kw, lenK]
        have a3 := ok.most
        show _ + _ * 0 ≤ _
        omega
      have hw3 := s3 _ _ hw2
      have hm3 := s3 _ _ hm2
      have wl0 : H wl = none := hwl
      rw [join_kw]
      refine ⟨_, rfl, _, rfl, .ref a, d0 :: rest, kindsOf first (d0 :: rest), rfl, ⟨a, ys, rfl, s23 _ _ ha, each.mono fun v x h => h.gr (gr_same s23)⟩, lenK, ok.most, fun H4 b zs s4 hb eachz => ?_⟩
      have okR : RecsOk names (withKinds (d0 :: rest) (kindsOf first (d0 :: rest))) := ok.recs lenK
      refine ⟨b, zs, _, names, rfl, hb, eachz, okR, fun H5 s5 ne => ?_, fun H5 v os s5 pmo row by_ => ?_⟩
      · refine ⟨rfl, _, rfl, iteF ⟨_, _, rfl, (s23.trans s4).trans s5, s5 _ _ (s4 _ _ hm3), ?_, ?_⟩⟩
        · rw [s5 _ _ (s4 _ _ hw3), tki, List.flatMap_append]
          simp [toldFor_no ne]
        · rw [tki, List.flatMap_append]
          simp [toldFor_no ne]
          simp at len2
          omega
      · obtain ⟨b', rfl, hb'⟩ := row
        have yes := by_.expl
        have s45 := s4.trans s5
        refine ⟨rfl, _, rfl, iteT ?_⟩
        have nmw : m ≠ wl := (ne_of_none (g2 _ _ upd_same) hm).symm
        refine ⟨_, rfl, .inl ⟨rfl, _, SqL.of (s45 _ _ hw3)⟩, _, rfl, wl, _, _, rfl, rfl, s45 _ _ hw3, szl (by rw [List.length_map]; omega), ?_⟩
        refine ⟨_, _, rfl, same_again (s23.trans s45) wl0, by rw [upd_ne nmw]; exact s45 _ _ hm3, ?_, ?_⟩
        · rw [upd_same, tki, List.flatMap_append, List.map_append]
          simp [toldFor_yes yes]
        · rw [tki, List.flatMap_append]
          simp [toldFor_yes yes]
          simp at len2
          omega
    · rintro σ H2 ⟨u3, u4, rfl, s2, hm2, hw2, len2⟩
      refine ⟨_, rfl, wl, _, rfl, .inl ⟨SqL.of hw2, fun l hl => q _ _ (s2.trans (same_new hl)) ⟨l, rfl, ?_⟩⟩⟩
      rw [upd_same]
      unfold told
      simp

def spWordRight : Sp := fun vs H Q _ => ∃ (p : Addr) (v : V) (ds : List (Dbl Str)) (ks : List Bool) (names : List Str), vs = [.ref p, v, .str (wordOf ks)] ∧ PoolAt H p ∧ DblsAt H v ds ∧ DblsOk names ds ∧ ks.length = ds.length ∧ Expl (withKinds ds ks) ∧
  ∀ H', Kp p H H' → PoolAt H' p → Q (.bl true) H'
theorem ca_l_word_right (T : Tx K mg aK) (D : Df K mg "_law_word_right" s_l_word_right) (c_l_draw : Ca P w K mg base 1 "_law_draw" spDraw) (c_find_order : Ca P w K mg base 7 "find_order" spFind) (c_l_seen : Ca P w K mg base 1 "_law_seen" spSeen)
    (c_l_mirror : Ca P w K mg base 1 "_law_mirror" spMirror) (c_l_later : Ca P w K mg base 1 "_law_later" spLater) (c_l_ranked : Ca P w K mg base 1 "_law_ranked" spRanked) : Ca P w K mg base 8 "_law_word_right" spWordRight := by
  refine ca_mk D sc_l_word_right (fun _ _ _ _ _ _ us hl => match us, hl with | [_, _, _], _ => rfl) (fun vs H Q E h => ?_) (fun f cdv A outer s H vs Q E hr h => ?_)
  · obtain ⟨_, _, _, _, _, rfl, _⟩ := h
    rfl
  · obtain ⟨p, v, ds, ks, names, rfl, hp, hd, ok, lk, ex, q⟩ := h
    have m20 := ok.most
    have one := ok.one
    have wl := word_len ks
    refine ⟨_, (pss_cons (ps_set (i := 3) sc_l_word_right.nd rfl (.inl rfl) (pe_ca c_find_order hr (by decide) rfl (pa_cons (pe_ca c_l_seen hr (by decide) rfl (pa_cons (pv 1) (pa_cons (pv 2) pa_nil))) pa_nil)))
    (pss_cons (ps_if (pt_cmpR op_isN (pv 3) pe_non (nomark _)) (pss_one (ps_ret pe_bl)) pss_nil)
    (pss_cons (ps_for PassesOwn.never rfl (pi_tup (pe_ca c_l_seen hr (by decide) rfl (pa_cons (pv 1) (pa_cons (pe_ca c_l_mirror hr (by decide) rfl (pa_cons (pv 2) pa_nil)) pa_nil)))) (pg_tup rfl (pgs_cons (pg_name (i := 4) sc_l_word_right.nd rfl (.inl rfl)) (pgs_cons (pg_name (i := 5) sc_l_word_right.nd rfl (.inl rfl)) (pgs_cons (pg_name (i := 6) sc_l_word_right.nd rfl (.inl rfl)) pgs_nil)))) (pss_one (ps_if (pt_cmpR (op_neT hr) (pe_ca c_l_later hr (by decide) rfl (pa_cons (pv 4) (pa_cons (pv 5) (pa_cons (pe_ca c_l_ranked hr (by decide) rfl (pa_cons (pe_revT (pv 3)) pa_nil)) pa_nil)))) (pv 6) (nomark _)) (pss_one (ps_ret pe_bl)) pss_nil)))
    (pss_cons (ps_set (i := 7) sc_l_word_right.nd rfl (.inl rfl) (pe_ca c_l_draw hr (by decide) rfl (pa_cons (pv 0) (pa_cons (pe_callB call_len_str (by rfl) T.b_len (by decide +kernel) (pa_cons (pv 2) pa_nil)) pa_nil))))
    (pss_cons (ps_set (i := 8) sc_l_word_right.nd rfl (.inl rfl) (pe_op op_add_str (pe_op op_add_str (pe_slice sl_str (pv 2) po_none (po_some (pv 7))) (pe_ca c_l_mirror hr (by decide) rfl (pa_cons (pe_ix ix_str (pv 2) (pv 7) (fun _ _ => rfl)) pa_nil))) (pe_slice sl_str (pv 2) (po_some (pe_op op_add (pv 7) pe_int)) po_none)))
    (pss_one (ps_ret (pe_or (pe_cmpR op_eq (pe_callB call_len_str (by rfl) T.b_len (by decide +kernel) (pa_cons (pv 2) pa_nil)) pe_int (nomark _)) (pe_one (pe_cmpR op_isN (pe_ca c_find_order hr (by decide) rfl (pa_cons (pe_ca c_l_seen hr (by decide) rfl (pa_cons (pv 1) (pa_cons (pv 8) pa_nil))) pa_nil)) pe_non (nomark _))))))))))), ?_⟩
    refine ⟨_, rfl, _, rfl, v, ds, ks, rfl, hd, lk, m20, fun H1 b zs s1 hb eachz => ?_⟩
    refine ⟨b, zs, _, names, rfl, hb, eachz, ok.recs lk, fun H2 s2 ne => absurd ex ne, fun H2 ov os s2 pmo row by_ => ?_⟩
    obtain ⟨o, rfl, ho⟩ := row
    refine ⟨_, rfl, rfl, _, rfl, iteF ?_⟩
    have s12 := s1.trans s2
    refine ⟨_, rfl, _, rfl, ks, rfl, (by omega), fun H3 s3 => ?_⟩
    have s13 := s12.trans s3
    have lkn : (ks.map not).length = ds.length := by rw [List.length_map]; exact lk
    refine ⟨v, ds, ks.map not, rfl, hd.gr (gr_same s13), lkn, m20, fun H4 c rs s4 hc eachr => ?_⟩
    have s14 := s13.trans s4
    have ndo : os.Nodup := pmo.nodup_iff.mpr ok.row.nd
    have lo : os.length ≤ 12 := by rw [pmo.length_eq]; exact ok.row.most
    have lw := withKinds_len lkn
    refine ⟨c, rfl, ⟨_, SqT.of hc⟩, for_it (n := rs.length) (walk_tup (xs := rs)) (fun i σ H5 => ∃ u4 u5 u6 : Option V, σ = [some (.ref p), some v, some (.str (wordOf ks)), some (.ref o), u4, u5, u6, none, none] ∧ Same H4 H5)
      ⟨none, none, none, rfl, Same.refl _⟩ (fun i σ H5 _ ⟨_, _, _, _, s5⟩ => SqT.of (s5 _ _ hc)) ?_ ?_⟩
    · rintro i x σ H0 H5 hi ⟨u4, u5, u6, rfl, s5⟩ ⟨rfl, hx⟩
      obtain ⟨z, hz, hrec⟩ := eachr.get hx
      obtain ⟨d, k, ed, ek, rfl⟩ := withKinds_at lkn hz
      obtain ⟨e, x1, x2, rfl, he, r1, r2⟩ := hrec.gr (gr_same s5)
      have dk := ok.ok d (List.mem_of_getElem? ed)
      rw [List.getElem?_map] at ek
      obtain ⟨k', ek', rfl⟩ := Option.map_eq_some_iff.mp ek
      have hh : Holds1 (rankOf os) (d.1, k', d.2) := by_ _ (List.mem_of_getElem? (withKinds_get ed ek'))
      have hrev := rev_holds ndo (fun x hx => pmo.symm.subset (dk.fst.subset hx)) hh
      have late := holds_late (dk.fst.trans dk.snd.symm) hrev
      refine ⟨e, _, rfl, SqT.of he, rfl, _, _, rfl, _, _, rfl, _, _, rfl, rfl, ?_⟩
      refine ⟨_, rfl, _, rfl, _, rfl, o, _, rfl, SqT.of (s5 _ _ (s4 _ _ (s3 _ _ ho))), fun t ht => ?_⟩
      have g6 := same_new (o := .tup (os.map V.str).reverse) ht
      refine ⟨.ref t, os.reverse, rfl, ⟨t, rfl, by rw [upd_same, List.map_reverse]⟩, (List.reverse_perm os).nodup_iff.mpr ndo, by rw [List.length_reverse]; exact lo, fun H7 dd s7 rk => ?_⟩
      have s57 := g6.trans s7
      refine ⟨x1, !k', dd, d.1, os.reverse, rfl, r1.gr (gr_same s57), ok.row.perm dk.fst, fun x hx => List.mem_reverse.mpr (pmo.symm.subset (dk.fst.subset hx)), rk, fun H8 v8 s8 row8 => ?_⟩
      obtain ⟨e8, rfl, he8⟩ := row8
      obtain ⟨e9, rfl, he9⟩ := r2.gr (gr_same (s57.trans s8))
      have ok2 := ok.row.perm dk.snd
      refine ⟨_, rfl, e8, e9, _, _, rfl, rfl, SqT.of he8, SqT.of he9, fun z hz => ?_, fun z hz => nameOk_ok (ok2.ok z hz), _, rfl, goF ?_ ⟨_, _, _, rfl, s5.trans (s57.trans s8)⟩⟩
      · rw [late] at hz
        exact nameOk_ok (ok2.ok z hz)
      · rw [decide_eq_true late]
        rfl
    · rintro σ H5 ⟨u4, u5, u6, rfl, s5⟩
      have s15 := s14.trans s5
      refine ⟨_, rfl, _, rfl, _, rfl, sz (by omega), p, _, rfl, hp.same s15, (by omega), (by omega), fun H6 r k6 p6 lt => ?_⟩
      have lt' : r < ks.length := by omega
      have hk := List.getElem?_eq_getElem lt'
      have k16 : Kp p H H6 := (kp_same s15).trans k6
      have gr6 : Gr H H6 := (gr_same s15).trans ((hp.same s15).gr k6)
      refine ⟨_, rfl, _, rfl, _, rfl, _, rfl, sz (by omega), _, rfl, _, rfl, _, _, _, rfl, rfl, sz (by omega), atI_nat (word_at hk), [ks[r]], ?_, (by show 1 ≤ 100; decide), fun H7 s7 => ?_⟩
      · rw [← kw_word, kw_cps]
        rfl
      rw [cut_to]
      have w1 := word_len (ks.take r)
      have w2 := word_len ([ks[r]].map not)
      have lt1 : (ks.take r).length ≤ 20 := by have := List.length_take_le r ks; omega
      refine ⟨_, _, rfl, rfl, sz (by rw [w1, w2]; show _ + 1 ≤ 1000; omega), _, rfl, _, rfl, _, _, rfl, rfl, _, rfl, _, rfl, sz (by omega), ?_⟩
      rw [show ((r : Nat) : Int) + 1 = ((r + 1 : Nat) : Int) by omega, cut_from, word_append]
      have w3 := word_len (ks.take r ++ [ks[r]].map not)
      have w4 := word_len (ks.drop (r + 1))
      have ld : (ks.drop (r + 1)).length ≤ 20 := by rw [List.length_drop]; omega
      refine ⟨_, _, rfl, rfl, sz (by rw [w3, w4, List.length_append, List.length_map]; show _ + 1 + _ ≤ 1000; omega), ?_⟩
      rw [word_append]
      have ebent : ks.take r ++ [ks[r]].map not ++ ks.drop (r + 1) = ks.take r ++ (!ks[r]) :: ks.drop (r + 1) := by simp
      rw [ebent]
      have lbent : (ks.take r ++ (!ks[r]) :: ks.drop (r + 1)).length = ds.length := by
        rw [List.length_append, List.length_cons, List.length_take, List.length_drop]
        omega
      have p7 := p6.same s7
      refine ⟨_, rfl, _, rfl, sz (by omega), rfl, _, rfl, goB (fun _ => q _ (k16.trans (kp_same s7)) p7) fun e1 => ?_⟩
      have two : 2 ≤ ks.length := by
        apply Classical.byContradiction
        intro no
        have h1 : ks.length = 1 := by omega
        rw [wl, h1] at e1
        cases e1
      have none_ := bent_none ok.good lk ex lt' two hk
      refine ⟨_, rfl, _, rfl, v, ds, _, rfl, hd.gr (gr6.trans (gr_same s7)), lbent, m20, fun H8 b8 zs8 s8 hb8 each8 => ?_⟩
      refine ⟨b8, zs8, _, names, rfl, hb8, each8, ok.recs lbent, fun H9 s9 _ => ?_, fun H9 v9 os9 s9 _ _ by9 => absurd by9.expl none_⟩
      exact ⟨rfl, q _ ((k16.trans (kp_same s7)).trans (kp_same (s8.trans s9))) (p7.same (s8.trans s9))⟩
end
end LP

set_option Elab.async false
set_option linter.all false
set_option maxRecDepth 100000
set_option maxHeartbeats 4000000
/-! LpD12: the words told, right, law. -/
namespace LP
open PySem PySem.Spec PyProof.Rows L2
theorem told_mem {ds : List (Dbl Str)} {x : Str} : x ∈ told ds ↔ ∃ first, Expl (withKinds ds (kindsOf first ds)) ∧ x = wordOf (kindsOf first ds) := by
  have one : ∀ first, x ∈ toldFor ds first ↔ Expl (withKinds ds (kindsOf first ds)) ∧ x = wordOf (kindsOf first ds) := fun first => by
    by_cases h : Expl (withKinds ds (kindsOf first ds))
    · rw [toldFor_yes h, List.mem_singleton]
      exact ⟨fun e => ⟨h, e⟩, fun e => e.2⟩
    · rw [toldFor_no h]
      exact ⟨fun e => (nomatch e), fun e => absurd e.1 h⟩
  unfold told
  rw [List.mem_append, one, one]
  constructor
  · rintro (h | h)
    · exact ⟨false, h⟩
    · exact ⟨true, h⟩
  · rintro ⟨first, h⟩
    cases first
    · exact .inl h
    · exact .inr h
theorem expl_mirror {ds : List (Dbl Str)} {first : Bool} (h : Expl (withKinds ds (kindsOf first ds))) : Expl (withKinds ds (kindsOf (!first) ds)) := by
  rw [← kindsOf_not]
  exact expl_not h
theorem told_form (ds : List (Dbl Str)) : told ds = [] ∨ told ds = [wordOf (kindsOf false ds), wordOf ((kindsOf false ds).map not)] := by
  by_cases h : Expl (withKinds ds (kindsOf false ds))
  · have h' : Expl (withKinds ds (kindsOf true ds)) := expl_mirror h
    refine .inr ?_
    unfold told
    rw [toldFor_yes h, toldFor_yes h', kindsOf_not]
    rfl
  · have h' : ¬ Expl (withKinds ds (kindsOf true ds)) := fun z => h (expl_mirror z)
    refine .inl ?_
    unfold told
    rw [toldFor_no h, toldFor_no h']
    rfl
theorem told_one {names : List Str} {d : Dbl Str} (ok : RowOk names) (dk : DblOk names d) : told [d] = if (cmpRow true d.1 d.2).isSome = true then [("S" : Str), "T"] else [] := by
  have kd : ∀ first, kindsOf first [d] = [first] := fun first => by
    rw [kf_eq]
    show [kf first d d] = [first]
    unfold kf
    rw [if_pos rfl]
  have eS : wordOf [false] = ("S" : Str) := by decide +kernel
  have eT : wordOf [true] = ("T" : Str) := by decide +kernel
  by_cases h : (cmpRow true d.1 d.2).isSome = true
  · rw [if_pos h]
    obtain ⟨r, e⟩ := Option.isSome_iff_exists.mp h
    have x : Expl [(d.1, true, d.2)] := holds1_one (dk.fst.trans dk.snd.symm) ((dk.snd.nodup_iff).mpr ok.nd) e
    have xt : Expl (withKinds [d] (kindsOf true [d])) := by rw [kd]; exact x
    have xf : Expl (withKinds [d] (kindsOf false [d])) := expl_mirror xt
    unfold told
    rw [toldFor_yes xf, toldFor_yes xt, kd, kd, eS, eT]
    rfl
  · rw [if_neg h]
    have no : ∀ first, ¬ Expl (withKinds [d] (kindsOf first [d])) := fun first z => by
      rw [kd] at z
      obtain ⟨f, z⟩ := z
      obtain ⟨r, e, _⟩ := z (d.1, first, d.2) List.mem_cons_self
      have e : cmpRow first d.1 d.2 = some r := e
      cases first with
      | true => exact h (by rw [e]; rfl)
      | false =>
        have q := cmpRow_not true d.1 d.2
        rw [show (!true) = false from rfl, e] at q
        exact h q.symm
    unfold told
    rw [toldFor_no (no false), toldFor_no (no true)]
    rfl
theorem told_len (ds : List (Dbl Str)) : ∀ x ∈ told ds, x.length = ds.length := fun x hx => by
  obtain ⟨first, _, rfl⟩ := told_mem.mp hx
  rw [word_len, kindsOf_len]
theorem word_chars (ks : List Bool) : ∀ c ∈ (wordOf ks).cps.toList, c = 84 ∨ c = 83 := fun c hc => by
  have e : (wordOf ks).cps.toList = ks.map fun k => if k = true then 84 else 83 := by
    show ((ks.map fun k => if k = true then 84 else 83).toArray).toList = _
    simp
  rw [e] at hc
  obtain ⟨k, _, rfl⟩ := List.mem_map.mp hc
  cases k
  · exact .inr rfl
  · exact .inl rfl
theorem word_okS (ks : List Bool) : OkS (wordOf ks) := by
  show (wordOf ks).cps.all (· < 1114112) = true
  rw [← Array.all_toList, List.all_eq_true]
  intro c hc
  rcases word_chars ks c hc with h | h <;> (rw [h]; decide)
theorem told_okS (ds : List (Dbl Str)) : ∀ x ∈ told ds, OkS x := fun x hx => by
  obtain ⟨first, _, rfl⟩ := told_mem.mp hx
  exact word_okS _
theorem repr_word (ks : List Bool) (h : ks.length ≤ 20) : (reprText (wordOf ks)).length ≤ 202 := by
  have q := PySem.StrLaws.reprText_len (wordOf ks) fun c hc => by rcases word_chars ks c hc with h | h <;> (rw [h]; decide)
  rw [word_len] at q
  omega
theorem told_repr {ds : List (Dbl Str)} (h : ds.length ≤ 20) : (∀ y ∈ told ds, (reprText y).length ≤ 1000) ∧ (tupleText ((told ds).map reprText)).length ≤ 1000 := by
  have a := fun first => repr_word (kindsOf first ds) (by rw [kindsOf_len]; exact h)
  have b := repr_word ((kindsOf false ds).map not) (by rw [List.length_map, kindsOf_len]; exact h)
  refine ⟨fun y hy => ?_, ?_⟩
  · obtain ⟨first, _, rfl⟩ := told_mem.mp hy
    have := a first
    omega
  · rcases told_form ds with e | e
    · rw [e]
      decide +kernel
    · rw [e]
      have a0 := a false
      show (("(" : Str) ++ (reprText (wordOf (kindsOf false ds)) ++ (", " : Str) ++ reprText (wordOf ((kindsOf false ds).map not))) ++ (")" : Str)).length ≤ 1000
      rw [PySem.Str.length_append, PySem.Str.length_append, PySem.Str.length_append, PySem.Str.length_append]
      have e1 : ("(" : Str).length = 1 := by decide +kernel
      have e2 : (", " : Str).length = 2 := by decide +kernel
      have e3 : (")" : Str).length = 1 := by decide +kernel
      omega
section
variable {P : Program} {w : World} {K : PySem.W.Frag} {mg : Str → Option Value} {base : Heap} {aK : Addr}
def spRight : Sp := fun vs H Q _ => ∃ p : Addr, vs = [.ref p] ∧ PoolAt H p ∧ ∀ H', Kp p H H' → PoolAt H' p → Q (.bl true) H'
theorem ca_l_right (T : Tx K mg aK) (D : Df K mg "_law_right" s_l_right) (c_l_draw : Ca P w K mg base 1 "_law_draw" spDraw) (c_l_names : Ca P w K mg base 2 "_law_names" spNames) (c_l_doubles : Ca P w K mg base 4 "_law_doubles" spDoubles)
    (c_possible_kinds : Ca P w K mg base 6 "possible_kinds" spPossible) (c_l_by_ends : Ca P w K mg base 8 "_law_by_ends" spByEnds) (c_l_mirror : Ca P w K mg base 1 "_law_mirror" spMirror) (c_l_word_right : Ca P w K mg base 8 "_law_word_right" spWordRight)
    (c_comparisons : Ca P w K mg base 5 "comparisons" spComparisons) : CaG P w K mg base 9 "_law_right" spRight := by
  refine caG_mk D sc_l_right (fun _ _ _ _ _ _ us hl => match us, hl with | [_], _ => rfl) (fun vs H Q E h => ?_) (fun f cdv A outer s H vs Q E hgd hr h => ?_)
  · obtain ⟨_, rfl, _⟩ := h
    rfl
  · obtain ⟨p, rfl, hp, q⟩ := h
    refine ⟨_, (pss_cons (ps_set (i := 1) sc_l_right.nd rfl (.inl rfl) (pe_ca c_l_names hr (by decide) rfl (pa_cons (pv 0) (pa_cons (pe_op op_add pe_int (pe_ca c_l_draw hr (by decide) rfl (pa_cons (pv 0) (pa_cons pe_int pa_nil)))) pa_nil))))
    (pss_cons (ps_asg (pe_ca c_l_doubles hr (by decide) rfl (pa_cons (pv 0) (pa_cons (pv 1) pa_nil))) (pg_tup rfl (pgs_cons (pg_name (i := 2) sc_l_right.nd rfl (.inl rfl)) (pgs_cons (pg_name (i := 3) sc_l_right.nd rfl (.inl rfl)) pgs_nil))))
    (pss_cons (ps_set (i := 4) sc_l_right.nd rfl (.inl rfl) (pe_ca c_possible_kinds hr (by decide) rfl (pa_cons (pv 2) pa_nil)))
    (pss_mid (ps_if (PW.pt (pw_or (pt_cmpR op_ne (pe_callB (call_reprT hgd hr) (by rfl) T.b_repr (by decide +kernel) (pa_cons (pv 4) pa_nil)) (pe_callB (call_reprT hgd hr) (by rfl) T.b_repr (by decide +kernel) (pa_cons (pe_ca c_l_by_ends hr (by decide) rfl (pa_cons (pv 2) pa_nil)) pa_nil)) (nomark _)) (pw_or1 (PW.pt (pw_and (pt_cmpR (op_neT hr) (pv 4) (pe_tup pa_nil) (nomark _)) (pw_and1 (pt_cmpR op_ne (pe_ix ix_tup (pv 4) pe_int (fun _ _ => rfl)) (pe_ca c_l_mirror hr (by decide) rfl (pa_cons (pe_ix ix_tup (pv 4) pe_int (fun _ _ => rfl)) pa_nil)) (nomark _)))))))) (pss_one (ps_ret pe_bl)) pss_nil)
    (pss_mid (ps_if (PW.pt (pw_and (pt_cmpR op_notN (pv 3) pe_non (nomark _)) (pw_and1 (pt_cmpR op_notIn_seq (pv 3) (pv 4) (by rfl))))) (pss_one (ps_ret pe_bl)) pss_nil)
    (pss_cons (ps_for PassesOwn.never rfl (pi_tup (pv 4)) (pg_name (i := 5) sc_l_right.nd rfl (.inr rfl)) (pss_cons (ps_set (i := 6) sc_l_right.nd rfl (.inr rfl) (pe_lc (own := [("_law_double", 12)]) (g := gName 12) (tt := tYes) rfl sc_l_right.nd (pi_tup (pv 2)) (blkOk_by (N := ["_law_pool_here", "_law_folk", "_law_doubles_here", "_law_spelt", "_law_told", "_law_word_here", "_law_ends", "_law_most", "_law_begun", "_law_line", "_law_later_here", "_law_due", "_law_double", "_law_k"]) (sc := defScope s_l_right) (by decide +kernel)) (fun _ _ _ _ _ => (pg_name (i := 12) sc_l_right.nd rfl (.inl rfl))) (fun _ _ _ _ _ => pts_nil) (fun _ _ _ _ _ => (pe_ix (ix_tupK K) (pe_ix (ix_tupK K) (pv 12) pe_int (fun _ _ => rfl)) (pe_un un_neg pe_int) (fun _ _ => rfl)))))
    (pss_cons (ps_if (pt_not (pt_val (pe_callB (cr_all rfl) (by rfl) T.b_all (by decide +kernel) (pa_cons (pe_lc (own := [("_law_k", 13)]) (g := gName 13) (tt := tYes) rfl sc_l_right.nd (pi_range1 rfl T.b_range (pa_cons (pe_callB call_len_seq (by rfl) T.b_len (by decide +kernel) (pa_cons (pv 6) pa_nil)) pa_nil)) (blkOk_by (N := ["_law_pool_here", "_law_folk", "_law_doubles_here", "_law_spelt", "_law_told", "_law_word_here", "_law_ends", "_law_most", "_law_begun", "_law_line", "_law_later_here", "_law_due", "_law_double", "_law_k"]) (sc := defScope s_l_right) (by decide +kernel)) (fun _ _ _ _ _ => (pg_name (i := 13) sc_l_right.nd rfl (.inl rfl))) (fun _ _ _ _ _ => pts_nil) (fun _ _ _ _ _ => (pe_cmpR op_eq (pe_cmpR op_eq (pe_ix (ix_listK K) (pv 6) (pv 13) (fun _ _ => rfl)) (pe_ix (ix_listK K) (pv 6) pe_int (fun _ _ => rfl)) (nomark _)) (pe_cmpR op_eq (pe_ix ix_str (pv 5) (pv 13) (fun _ _ => rfl)) (pe_ix ix_str (pv 5) pe_int (fun _ _ => rfl)) (nomark _)) (nomark _)))) pa_nil)))) (pss_one (ps_ret pe_bl)) pss_nil)
    (pss_one (ps_if (pt_not (pt_val (pe_ca c_l_word_right hr (by decide) rfl (pa_cons (pv 0) (pa_cons (pv 2) (pa_cons (pv 5) pa_nil)))))) (pss_one (ps_ret pe_bl)) pss_nil)))))
    (pss_cons (ps_set (i := 7) sc_l_right.nd rfl (.inr rfl) (pe_op op_add pe_int (pe_ca c_l_draw hr (by decide) rfl (pa_cons (pv 0) (pa_cons (pe_callB call_len_seq (by rfl) T.b_len (by decide +kernel) (pa_cons (pv 2) pa_nil)) pa_nil)))))
    (pss_mid (ps_set (i := 8) sc_l_right.nd rfl (.inr rfl) (pe_ca c_possible_kinds hr (by decide) rfl (pa_cons (pe_slice sl_tupA (pv 2) po_none (po_some (pv 7))) pa_nil)))
    (pss_cons (ps_if (pt_not (pt_val (pe_callB (cr_all rfl) (by rfl) T.b_all (by decide +kernel) (pa_cons (pe_lc (own := [("_law_word_here", 5)]) (g := gName 5) (tt := tYes) rfl sc_l_right.nd (pi_tup (pv 4)) (blkOk_by (N := ["_law_pool_here", "_law_folk", "_law_doubles_here", "_law_spelt", "_law_told", "_law_word_here", "_law_ends", "_law_most", "_law_begun", "_law_line", "_law_later_here", "_law_due", "_law_double", "_law_k"]) (sc := defScope s_l_right) (by decide +kernel)) (fun _ _ _ _ _ => (pg_name (i := 5) sc_l_right.nd rfl (.inl rfl))) (fun _ _ _ _ _ => pts_nil) (fun _ _ _ _ _ => (pe_cmpR (op_in_seqK K) (pe_slice sl_str (pv 5) po_none (po_some (pv 7))) (pv 8) (by rfl)))) pa_nil)))) (pss_one (ps_ret pe_bl)) pss_nil)
    (pss_cons (ps_for PassesOwn.never rfl (pi_tup (pv 2)) (pg_tup rfl (pgs_cons (pg_name (i := 9) sc_l_right.nd rfl (.inl rfl)) (pgs_cons (pg_name (i := 10) sc_l_right.nd rfl (.inl rfl)) pgs_nil))) (pss_mid (ps_set (i := 11) sc_l_right.nd rfl (.inl rfl) (pe_ifExp (pt_cmpR op_isN (pe_ca c_comparisons hr (by decide) rfl (pa_cons (pe_tup (pa_cons (pv 9) (pa_cons pe_str (pa_cons (pv 10) pa_nil)))) pa_nil)) pe_non (nomark _)) (pe_tup pa_nil) (pe_tup (pa_cons pe_str (pa_cons pe_str pa_nil)))))
    (pss_one (ps_if (pt_cmpR (op_neT hr) (pe_ca c_possible_kinds hr (by decide) rfl (pa_cons (pe_tup (pa_cons (pe_tup (pa_cons (pv 9) (pa_cons (pv 10) pa_nil))) pa_nil)) pa_nil)) (pv 11) (nomark _)) (pss_one (ps_ret pe_bl)) pss_nil))))
    (pss_one (ps_ret pe_bl)))))))))))), ?_⟩
    refine ⟨_, rfl, _, rfl, p, 11, rfl, hp, by decide, by decide, fun H1 r1 k1 p1 lt1 => ⟨_, _, rfl, rfl, p, 2 + r1, rfl, p1, (by omega), fun H2 fl names k2 p2 _ hf2 ln ndn okn => ?_⟩⟩
    have okF : RowOk names := ⟨by rw [ln]; omega, by rw [ln]; omega, ndn, okn⟩
    have k02 := k1.trans k2
    refine ⟨_, rfl, _, rfl, p, fl, names, rfl, p2, hf2, okF, fun H3 t dv sv ds k3 p3 ht3 dbl3 ok sp => ?_⟩
    have k03 := k02.trans k3
    refine ⟨t, _, rfl, SqT.of ht3, rfl, _, _, rfl, _, _, rfl, rfl, ?_⟩
    have m20 := ok.most
    have one := ok.one
    obtain ⟨a, ys, rfl, ha3, each3⟩ := id dbl3
    refine ⟨_, rfl, a, ys, ds, names, rfl, ha3, each3, ok, fun H4 tv s4 trow => ?_⟩
    obtain ⟨tl, rfl, htl4⟩ := id trow
    have p4 := p3.same s4
    have k04 := k03.trans (kp_same s4)
    have dbl4 := dbl3.gr (gr_same s4)
    have reprs := told_repr m20
    -- the words as by the ends, the second the first's mirror
    refine ⟨fun σ' H' => σ' = [some (.ref p), some (.ref fl), some (.ref a), some sv, some (.ref tl), none, none, none, none, none, none, none, none, none] ∧ Same H4 H', ?_, ?_⟩
    · refine ⟨_, rfl, tl, told ds, rfl, SqT.of htl4, fun y hy => sz (reprs.1 y hy), sz reprs.2, ?_⟩
      refine ⟨_, rfl, .ref a, ds, names, rfl, dbl4, ok, fun H5 v5 s5 row5 => ?_⟩
      obtain ⟨t5, rfl, ht5⟩ := row5
      refine ⟨t5, told ds, rfl, SqT.of ht5, fun y hy => sz (reprs.1 y hy), sz reprs.2, rfl, _, rfl, goF (by rw [decide_eq_true rfl]; rfl) ?_⟩
      refine ⟨_, rfl, Nat.zero_le _, fun e he => ⟨tl, e, told ds, [], rfl, rfl, SqT.of (same_new he _ _ (s5 _ _ htl4)), SqT.of upd_same, told_okS ds, fun z hz => (nomatch hz), _, rfl, ?_⟩⟩
      have se := same_new (o := .tup []) he
      rcases told_form ds with e0 | e2
      · exact goF (by rw [e0]; rfl) (iteF ⟨rfl, s5.trans se⟩)
      · refine goT (by rw [e2]; rfl) ?_
        have ht6 := se _ _ (s5 _ _ htl4)
        rw [e2] at ht6
        refine ⟨_, rfl, tl, _, _, _, rfl, rfl, SqT.of ht6, atI_nat (j := 1) rfl, _, rfl, tl, _, _, _, rfl, rfl, SqT.of ht6, atI_nat (j := 0) rfl, kindsOf false ds, rfl, by rw [kindsOf_len]; omega, fun H7 s7 => ⟨rfl, _, rfl, goF (by rw [decide_eq_true rfl]; rfl) ⟨rfl, (s5.trans se).trans s7⟩⟩⟩
    rintro _ H5 ⟨rfl, s5⟩
    have htl5 := s5 _ _ htl4
    have p5 := p4.same s5
    have k05 := k04.trans (kp_same s5)
    have dbl5 := dbl4.gr (gr_same s5)
    -- the drawn word is told
    refine ⟨fun σ' H' => σ' = [some (.ref p), some (.ref fl), some (.ref a), some sv, some (.ref tl), none, none, none, none, none, none, none, none, none] ∧ H' = H5, ?_, ?_⟩
    · refine ⟨_, rfl, rfl, _, rfl, goB (fun _ => ?_) fun _ => iteF ⟨rfl, rfl⟩⟩
      rcases sp with rfl | ⟨ks, rfl, lk, ex⟩
      · refine ⟨_, rfl, _, rfl, tl, _, rfl, .inr (SqT.of htl5), rfl, flat_strs _, _, rfl, ?_⟩
        exfalso
        rename_i h
        cases h
      · refine ⟨_, rfl, _, rfl, tl, _, rfl, .inr (SqT.of htl5), rfl, flat_strs _, _, rfl, ?_⟩
        rw [if_pos rfl, inV_strs]
        obtain ⟨first, rfl⟩ := expl_kinds ok.good lk ex
        exact goF (by rw [decide_eq_true (told_mem.mpr ⟨first, ex, rfl⟩)]; rfl) ⟨rfl, rfl⟩
    rintro _ H5 ⟨rfl, rfl⟩
    refine ⟨_, rfl, tl, rfl, ⟨_, SqT.of htl5⟩, for_it (n := ((told ds).map V.str).length) (walk_tup (xs := (told ds).map V.str))
      (fun i σ H1 => ∃ u5 u6 : Option V, σ = [some (.ref p), some (.ref fl), some (.ref a), some sv, some (.ref tl), u5, u6, none, none, none, none, none, none, none] ∧ Kp p H H1 ∧ PoolAt H1 p ∧ Gr H5 H1)
      ⟨none, none, rfl, k05, p5, Gr.refl _⟩ (fun i σ H1 _ ⟨_, _, _, _, _, g⟩ => SqT.of (g _ _ htl5)) ?_ ?_⟩
    · rintro i x σ H6' H6 hi ⟨u5, u6, rfl, k6, p6, g6⟩ ⟨rfl, hx⟩
      rw [List.getElem?_map] at hx
      obtain ⟨wd, hw, rfl⟩ := Option.map_eq_some_iff.mp hx
      obtain ⟨first, ex, rfl⟩ := told_mem.mp (List.mem_of_getElem? hw)
      have lenK := kindsOf_len first ds
      have wl := word_len (kindsOf first ds)
      obtain ⟨a', ys', ea, ha6, each6⟩ := dbl5.gr g6
      cases ea
      obtain ⟨d0, rest, ed⟩ : ∃ d0 rest, ds = d0 :: rest := by
        cases ds with
        | nil => simp at one
        | cons d r => exact ⟨d, r, rfl⟩
      let lastOf : Dbl Str → V := fun d => V.str (d.2.getLast?.getD "")
      -- the ends
      refine ⟨_, rfl, a, rfl, ⟨_, SqT.of ha6⟩, fun el hel => ?_⟩
      refine lc_it (n := ys'.length) (walk_tup (xs := ys')) (fun j H7 => Same H6 H7 ∧ H7 el = some (.lst ((ds.take j).map lastOf))) ⟨same_new hel, upd_same⟩ (fun j H7 _ h => SqT.of (h.1 _ _ ha6)) ?_ ?_
      · rintro j y H7' H7 hj ⟨s7, h7⟩ ⟨rfl, hy⟩
        obtain ⟨d, hd, pd⟩ := each6.get hy
        obtain ⟨t7, x1, x2, rfl, ht7, _, ⟨pl, rfl, hpl⟩⟩ := pd.gr (gr_same s7)
        obtain ⟨z, hz⟩ := last_some ok.row.two (ok.ok d (List.mem_of_getElem? hd)).snd
        have hj2 : j < ds.length := by rw [← each6.1]; exact hj
        have tkj : ds.take (j + 1) = ds.take j ++ [d] := by
          rw [List.take_succ_eq_append_getElem hj2]
          rw [List.getElem?_eq_getElem hj2] at hd
          rw [Option.some.inj hd]
        refine ⟨rfl, _, rfl, t7, _, _, _, rfl, rfl, SqT.of ht7, atI_nat (j := 1) rfl, _, rfl, pl, _, _, _, rfl, rfl, SqT.of hpl, atI_end hz, _, h7, szl (by rw [List.length_map]; have := List.length_take_le j ds; omega), same_again s7 hel, ?_⟩
        rw [upd_same, tkj, List.map_append]
        show some (HO.lst (_ ++ [V.str z])) = some (HO.lst (_ ++ [V.str (d.2.getLast?.getD "")]))
        rw [hz]
        rfl
      rintro H7 ⟨s7, h7⟩
      rw [each6.1, List.take_length] at h7
      -- the same ends, the same letters
      refine ⟨_, rfl, el, _, rfl, .inl (SqL.of h7), _, rfl, (by rw [List.length_map]; omega), (by rw [List.length_map]; omega), fun bl hbl => ?_⟩
      refine lc_it (n := (ds.map lastOf).length) walk_range (fun j H8 => ∃ bs : List Bool, Same H7 H8 ∧ H8 bl = some (.lst (bs.map V.bl)) ∧ bs.length = j ∧ bs.all id = true) ⟨[], same_new hbl, upd_same, rfl, rfl⟩ (fun _ _ _ _ => trivial) ?_ ?_
      · rintro j _ H8' H8 hj ⟨bs, s8, h8, lb, allb⟩ ⟨rfl, rfl⟩
        rw [List.length_map] at hj
        have hd := List.getElem?_eq_getElem hj
        obtain ⟨z, hz⟩ := last_some ok.row.two (ok.ok ds[j] (List.getElem_mem hj)).snd
        have md0 : d0 ∈ ds := by rw [ed]; exact List.mem_cons_self
        obtain ⟨z0, hz0⟩ := last_some ok.row.two (ok.ok d0 md0).snd
        have hd0 : ds[0]? = some d0 := by rw [ed]; rfl
        have w0 : (kindsOf first ds)[0]? = some first := by
          rw [ed, kf_eq]
          show some (kf first d0 d0) = some first
          unfold kf
          rw [if_pos rfl]
        have wj : (kindsOf first ds)[j]? = some (kf first d0 ds[j]) := by
          have h := hd
          revert h
          generalize ds[j] = dj
          intro h
          rw [ed] at h ⊢
          exact kindsOf_get h
        refine ⟨rfl, _, rfl, _, rfl, el, _, _, _, rfl, rfl, SqL.of (s8 _ _ h7), atI_0 (by rw [List.getElem?_map, hd]; rfl), _, rfl, el, _, _, _, rfl, rfl, SqL.of (s8 _ _ h7), atI_nat (j := 0) (by rw [List.getElem?_map, hd0]; rfl), rfl, ?_⟩
        refine ⟨_, rfl, _, rfl, _, _, _, rfl, rfl, sz (by omega), atI_0 (word_at wj), _, rfl, _, _, _, rfl, rfl, sz (by omega), atI_nat (j := 0) (word_at w0), rfl, rfl, ?_⟩
        have key : decide (lastOf ds[j] = lastOf d0) = decide (V.str ⟨#[if kf first d0 ds[j] = true then 84 else 83]⟩ = V.str ⟨#[if first = true then 84 else 83]⟩) := by
          show decide (V.str (ds[j].2.getLast?.getD "") = V.str (d0.2.getLast?.getD "")) = _
          rw [hz, hz0, ← kw_cps, ← kw_cps, str_is, str_is]
          show decide (z = z0) = _
          unfold kf
          rw [hz, hz0]
          by_cases e : z = z0
          · rw [if_pos (by rw [e]), decide_eq_true e, decide_eq_true rfl]
          · rw [if_neg fun q => e (Option.some.inj q), decide_eq_false e]
            exact (decide_eq_false fun q => by have := kw_inj q; cases first <;> cases this).symm
        refine ⟨_, h8, szl (by rw [List.length_map]; omega), bs ++ [true], same_again s8 hbl, ?_, by simp [lb], ?_⟩
        · rw [upd_same, List.map_append, key, decide_eq_true rfl]
          rfl
        · rw [List.all_append, allb]
          rfl
      rintro H8 ⟨bs, s8, h8, lb, allb⟩
      refine ⟨_, bs, rfl, SqL.of h8, _, rfl, goF (by rw [allb]; rfl) ?_⟩
      have s68 := s7.trans s8
      have p8 := p6.same s68
      refine ⟨_, rfl, _, rfl, _, rfl, p, .ref a, ds, kindsOf first ds, names, rfl, p8, (dbl5.gr g6).gr (gr_same s68), ok, lenK, ex, fun H9 k9 p9 => ⟨_, rfl, iteF ?_⟩⟩
      exact ⟨_, _, rfl, (k6.trans (kp_same s68)).trans k9, p9, (g6.trans (gr_same s68)).trans (p8.gr k9)⟩
    rintro σ H6 ⟨u5, u6, rfl, k6, p6, g6⟩
    obtain ⟨a', ys', ea, ha6, each6⟩ := dbl5.gr g6
    cases ea
    have htl6 := g6 _ _ htl5
    refine ⟨_, rfl, _, rfl, a, _, rfl, .inr (SqT.of ha6), p, _, rfl, p6, (by rw [each6.1]; omega), (by rw [each6.1]; omega), fun H7 r k7 p7 lt7 => ⟨_, _, rfl, rfl, ?_⟩⟩
    rw [each6.1] at lt7
    have k07 := k6.trans k7
    have gr7 := p6.gr k7
    have ha7 := gr7 _ _ ha6
    have each7 := each6.mono fun v x h => h.gr gr7
    have okt : DblsOk names (ds.take (1 + r)) := ⟨by rw [List.length_take]; omega, by rw [List.length_take]; omega, ok.row, fun d hd => ok.ok d (List.mem_of_mem_take hd)⟩
    have beg : ∀ (Q1 : VK) H8 b zs, Same H7 H8 → H8 b = some (.tup zs) → Each (PairAt H8) zs (ds.take (1 + r)) → (∀ H9 bl, Same H7 H9 → H9 bl = some (.tup ((told (ds.take (1 + r))).map V.str)) → Q1 (.ref bl) H9) → spPossible [.ref b] H8 Q1 E0 := fun Q1 H8 b zs s8 hb ez fin =>
      ⟨b, zs, _, names, rfl, hb, ez, okt, fun H9 v s9 row => by
        obtain ⟨bl, rfl, hbl⟩ := row
        exact fin H9 bl (s8.trans s9) hbl⟩
    refine ⟨fun σ' H9 => ∃ bl : Addr, σ' = [some (.ref p), some (.ref fl), some (.ref a), some sv, some (.ref tl), u5, u6, some (.int ((1 + r : Nat) : Int)), some (.ref bl), none, none, none, none, none] ∧ Same H7 H9 ∧ H9 bl = some (.tup ((told (ds.take (1 + r))).map V.str)), ?_, ?_⟩
    · refine ⟨_, rfl, V.int ((1 + r : Nat) : Int), rfl, _, rfl, a, _, rfl, SqT.of ha7, fun z => ?_, fun z b hb => ?_⟩
      · have z2 := z.2
        rw [HT.sIx_nat] at z2
        have le : ys'.length ≤ 1 + r := by omega
        exact beg _ H7 a ys' (Same.refl _) ha7 (by rw [List.take_of_length_le (by rw [← each7.1]; exact le)]; exact each7) fun H9 bl s9 hbl => ⟨bl, rfl, s9, hbl⟩
      · have ecut : cutV ys' none (some ((1 + r : Nat) : Int)) = ys'.take (1 + r) := by
          unfold cutV
          rw [HT.sIx_none, HT.sIx_nat, List.drop_zero, Nat.sub_zero]
          by_cases h : 1 + r ≤ ys'.length
          · rw [Nat.min_eq_left h]
          · rw [Nat.min_eq_right (by omega), List.take_of_length_le (by omega), List.take_of_length_le (by omega)]
        have sb := same_new (o := .tup (cutV ys' none (some ((1 + r : Nat) : Int)))) hb
        exact beg _ _ b (ys'.take (1 + r)) sb (by rw [← ecut]; exact upd_same) ((each7.take (1 + r)).mono fun v x h => h.gr (gr_same sb)) fun H9 bl s9 hbl => ⟨bl, rfl, s9, hbl⟩
    rintro _ H9 ⟨bl, rfl, s9, hbl⟩
    have htl9 := s9 _ _ (gr7 _ _ htl6)
    -- each word's first letters are told
    refine ⟨_, rfl, tl, rfl, ⟨_, SqT.of htl9⟩, fun cl hcl => ?_⟩
    refine lc_it (n := ((told ds).map V.str).length) (walk_tup (xs := (told ds).map V.str)) (fun j H10 => ∃ bs : List Bool, Same H9 H10 ∧ H10 cl = some (.lst (bs.map V.bl)) ∧ bs.length = j ∧ bs.all id = true) ⟨[], same_new hcl, upd_same, rfl, rfl⟩
      (fun j H10 _ ⟨_, h, _⟩ => SqT.of (h _ _ htl9)) ?_ ?_
    · rintro j x H10' H10 hj ⟨bs, s10, h10, lb, allb⟩ ⟨rfl, hx⟩
      rw [List.getElem?_map] at hx
      obtain ⟨wd, hw, rfl⟩ := Option.map_eq_some_iff.mp hx
      obtain ⟨first, ex, rfl⟩ := told_mem.mp (List.mem_of_getElem? hw)
      have wl := word_len (kindsOf first ds)
      have lenK := kindsOf_len first ds
      have lt2 : (told ds).length ≤ 2 := by
        rcases told_form ds with e | e <;> (rw [e]; simp)
      have key : inV (V.str (cutS (wordOf (kindsOf first ds)) none (some ((1 + r : Nat) : Int)))) ((told (ds.take (1 + r))).map V.str) = true := by
        rw [cut_to, inV_strs, ← kindsOf_take first ds (by omega)]
        refine decide_eq_true (told_mem.mpr ⟨first, ?_, rfl⟩)
        rw [kindsOf_take first ds (by omega), withKinds_take]
        exact expl_sub ex fun q hq => List.mem_of_mem_take hq
      rw [List.length_map] at hj
      refine ⟨rfl, _, rfl, _, rfl, _, rfl, _, rfl, sz (by omega), _, rfl, bl, _, rfl, .inr (SqT.of (s10 _ _ hbl)), rfl, flat_strs _, _, h10, szl (by rw [List.length_map]; omega), bs ++ [true], same_again s10 hcl, ?_, by simp [lb], ?_⟩
      · rw [upd_same, List.map_append]
        show some (HO.lst (_ ++ [V.bl (inV _ _)])) = _
        rw [key]
        rfl
      · rw [List.all_append, allb]
        rfl
    rintro H10 ⟨bs, s10, h10, lb, allb⟩
    refine ⟨_, bs, rfl, SqL.of h10, _, rfl, goF (by rw [allb]; rfl) ?_⟩
    have s710 := s9.trans s10
    have p10 := p7.same s710
    have k10 := k07.trans (kp_same s710)
    have ha10 := s710 _ _ ha7
    have each10 := each7.mono fun v x h => h.gr (gr_same s710)
    -- each pair alone
    refine ⟨_, rfl, a, rfl, ⟨_, SqT.of ha10⟩, for_it (n := ys'.length) (walk_tup (xs := ys'))
      (fun i σ H1 => ∃ u9 u10 u11 : Option V, σ = [some (.ref p), some (.ref fl), some (.ref a), some sv, some (.ref tl), u5, u6, some (.int ((1 + r : Nat) : Int)), some (.ref bl), u9, u10, u11, none, none] ∧ Same H10 H1)
      ⟨none, none, none, rfl, Same.refl _⟩ (fun i σ H1 _ ⟨_, _, _, _, h⟩ => SqT.of (h _ _ ha10)) ?_ ?_⟩
    · rintro i y σ H11' H11 hi ⟨u9, u10, u11, rfl, s11⟩ ⟨rfl, hy⟩
      obtain ⟨d, hd, pd⟩ := each10.get hy
      have dk := ok.ok d (List.mem_of_getElem? hd)
      obtain ⟨b, x1, x2, rfl, hb, r1', r2'⟩ := pd.gr (gr_same s11)
      refine ⟨b, _, rfl, SqT.of hb, rfl, _, _, rfl, _, _, rfl, rfl, ?_⟩
      refine ⟨fun σ' H12 => ∃ du : Addr, σ' = [some (.ref p), some (.ref fl), some (.ref a), some sv, some (.ref tl), u5, u6, some (.int ((1 + r : Nat) : Int)), some (.ref bl), some x1, some x2, some (.ref du), none, none] ∧ Same H11 H12 ∧ H12 du = some (.tup ((told [d]).map V.str)), ?_, ?_⟩
      · refine ⟨_, rfl, _, rfl, (by show 3 ≤ sizeLine; decide), fun e he => ?_⟩
        have se := same_new (o := .tup [x1, V.str "T", x2]) he
        refine ⟨.ref e, (d.1, true, d.2), names, rfl, ⟨e, x1, x2, rfl, upd_same, r1'.gr (gr_same se), r2'.gr (gr_same se)⟩, ok.row, dk, fun ec H12 s12 => ?_, fun ec H12 pp s12 => ?_⟩
        · have ec : cmpRow true d.1 d.2 = none := ec
          refine ⟨rfl, _, rfl, iteT ⟨Nat.zero_le _, fun du hdu => ⟨du, rfl, (se.trans s12).trans (same_new hdu), ?_⟩⟩⟩
          rw [upd_same, told_one ok.row dk, ec]
          rfl
        · have ec : (cmpRow true d.1 d.2).isSome = true := ec
          refine ⟨rfl, _, rfl, iteF ⟨(by show 2 ≤ sizeLine; decide), fun du hdu => ⟨du, rfl, (se.trans s12).trans (same_new hdu), ?_⟩⟩⟩
          rw [upd_same, told_one ok.row dk, if_pos ec]
          rfl
      rintro _ H12 ⟨du, rfl, s12, hdu⟩
      have r1 := r1'.gr (gr_same s12)
      have r2 := r2'.gr (gr_same s12)
      refine ⟨_, rfl, _, rfl, (by show 2 ≤ sizeLine; decide), fun e1 he1 => ⟨(by show 1 ≤ sizeLine; decide), fun e2 he2 => ?_⟩⟩
      have g1 := same_new (o := .tup [x1, x2]) he1
      have g2 := same_new (o := .tup [V.ref e1]) he2
      have okd : DblsOk names [d] := ⟨Nat.le_refl _, by show 1 ≤ 20; decide, ok.row, fun d' hd' => by rw [List.mem_singleton.mp hd']; exact dk⟩
      refine ⟨e2, _, [d], names, rfl, upd_same, Each.cons ⟨e1, x1, x2, rfl, g2 _ _ upd_same, r1.gr (gr_same (g1.trans g2)), r2.gr (gr_same (g1.trans g2))⟩ Each.nil, okd, fun H13 v s13 row => ?_⟩
      obtain ⟨v', rfl, hv⟩ := row
      have s1213 := (g1.trans g2).trans s13
      refine ⟨_, rfl, v', du, told [d], told [d], rfl, rfl, SqT.of hv, SqT.of (s1213 _ _ hdu), told_okS _, told_okS _, _, rfl, goF (by rw [decide_eq_true rfl]; rfl) ?_⟩
      exact ⟨_, _, _, rfl, (s11.trans s12).trans s1213⟩
    · rintro σ H11 ⟨u9, u10, u11, rfl, s11⟩
      exact q _ (k10.trans (kp_same s11)) (p10.same s11)

def spLaw (K : PySem.W.Frag) : Sp := fun vs H Q _ => ∃ (a : Addr) (ns : List Int), vs = [.ref a] ∧ SqL K H a (ns.map V.int) ∧ ∀ H', Q (.bl true) H'
theorem fn_law {fa : Addr} {fd : FuncData} (F : Fun K "law" "law" s_law fa fd) (T : Tx K mg aK) (c_l_cell : Ca P w K mg base 1 "_law_cell" (spCell K)) (c_l_pool : Ca P w K mg base 1 "_law_pool" spPool) (c_l_right : CaG P w K mg base 9 "_law_right" spRight) : FnG P w K mg base 10 fa fd ["_law_script"] (spLaw K) := by
  refine funG F sc_law (fun vs H Q E h => ?_) (fun cdv A outer s H vs Q E hgd hr h => ?_)
  · obtain ⟨_, _, rfl, _⟩ := h
    rfl
  · obtain ⟨a, ns, rfl, ha, q⟩ := h
    refine ⟨_, (pss_cons (ps_for PassesOwn.never rfl (pi_range1 rfl T.b_range (pa_cons (pe_callB (call_max2 rfl) (by rfl) T.b_max (by decide +kernel) (pa_cons pe_int (pa_cons (pe_callB (call_min2 rfl) (by rfl) T.b_min (by decide +kernel) (pa_cons (pe_callB call_len_seq (by rfl) T.b_len (by decide +kernel) (pa_cons (pv 0) pa_nil)) (pa_cons pe_int pa_nil))) pa_nil))) pa_nil)) (pg_name (i := 1) sc_law.nd rfl (.inl rfl)) (pss_cons (ps_set (i := 2) sc_law.nd rfl (.inl rfl) (pe_ca c_l_pool hr (by decide) rfl (pa_cons (pe_ca c_l_cell hr (by decide) rfl (pa_cons (pv 0) (pa_cons (pv 1) pa_nil))) pa_nil)))
    (pss_one (ps_if (PW.pt (pw_or (pt_not (pt_val (pe_caG c_l_right hgd hr (by decide) rfl (pa_cons (pv 2) pa_nil)))) (pw_or1 (pt_not (pt_val (pe_caG c_l_right hgd hr (by decide) rfl (pa_cons (pv 2) pa_nil))))))) (pss_one (ps_ret pe_bl)) pss_nil))))
    (pss_one (ps_ret pe_bl))), ?_⟩
    have small : ∀ n : Nat, (if (if (6 : Int) < (n : Nat) then (6 : Int) else (n : Nat)) > 2 then (if (6 : Int) < (n : Nat) then (6 : Int) else (n : Nat)) else 2) ≤ 6 ∧ 2 ≤ (if (if (6 : Int) < (n : Nat) then (6 : Int) else (n : Nat)) > 2 then (if (6 : Int) < (n : Nat) then (6 : Int) else (n : Nat)) else 2) := fun n => by
      by_cases h1 : (6 : Int) < (n : Nat)
      · rw [if_pos h1, if_pos (by decide)]
        decide
      · rw [if_neg h1]
        by_cases h2 : ((n : Nat) : Int) > 2
        · rw [if_pos h2]
          omega
        · rw [if_neg h2]
          decide
    have b := small (ns.map V.int).length
    refine ⟨_, rfl, a, _, rfl, .inl ha, _, _, rfl, _, _, rfl, _, rfl, (by omega), (by omega), for_it walk_range
      (fun i σ H1 => ∃ u1 u2 : Option V, σ = [some (.ref a), u1, u2] ∧ Same H H1) ⟨none, none, rfl, Same.refl H⟩ (fun _ _ _ _ _ => trivial) ?_ ?_⟩
    · rintro i _ σ H1' H1 hi ⟨u1, u2, rfl, s1⟩ ⟨rfl, rfl⟩
      have i6 : i < 100 := by
        have hi : i < (if (if (6 : Int) < ((ns.map V.int).length : Nat) then (6 : Int) else ((ns.map V.int).length : Nat)) > 2 then (if (6 : Int) < ((ns.map V.int).length : Nat) then (6 : Int) else ((ns.map V.int).length : Nat)) else 2).toNat := hi
        omega
      refine ⟨_, rfl, _, rfl, a, ns, i, by show [V.ref a, V.int (0 + ((i : Nat) : Int))] = _; rw [Int.zero_add], s1.seq ha, i6, fun z H2 s2 => ⟨z, rfl, fun H3 p s3 hp0 p3 => ?_⟩⟩
      have s13 := (s1.trans s2).trans s3
      have pn : H p = none := (s1.trans s2).free hp0
      have keep : ∀ {H4 H5 : Hp}, Same H H4 → Kp p H4 H5 → Same H H5 := fun {H4 H5} s k b o e => k b o (ne_of_none e pn) (s b o e)
      refine ⟨_, rfl, p, rfl, p3, fun H4 k4 p4 => ⟨_, rfl, iteF ⟨_, rfl, p, rfl, p4, fun H5 k5 p5 => ⟨_, rfl, iteF ⟨_, _, rfl, keep (keep s13 k4) k5⟩⟩⟩⟩⟩
    · rintro σ H1 ⟨u1, u2, rfl, s1⟩
      exact q H1
end
end LP

set_option Elab.async false
set_option linter.all false
set_option maxRecDepth 100000
set_option maxHeartbeats 4000000
/-! LpEnd: all together. -/
namespace LP
open PySem PySem.Spec PyProof.Rows L2
theorem df_mk {K : PySem.W.Frag} {h : Heap} {mg : Str → Option Value} {x : Str} {st : Stmt} {f : Addr} {oc : Value} {od an : Option Addr} {osl : Array (Option Value)} {kV doc pm cdv ct : Value} (X : K.In h) (G : h.Ns mainGlobals mg) (a : PySem.W.nsIn K mainGlobals x = some (some (.ref f)))
    (l : K.lookup f = some ⟨oc, od, .func (PySem.W.fnOf x x (defArgs st) (defBody st) (defScope st) .none kV doc pm an cdv ct), osl⟩) (c : PySem.W.codeIn K cdv x = true) (k : PySem.W.keepIn K (.ref f) = true) : Df K mg x st := ⟨f, _, fun_mk l c k, PySem.W.mg_of X G a⟩
section
variable {P : Program} {w : World} {K : PySem.W.Frag} {mg : Str → Option Value} {aK : Addr}
theorem Ca.lift {base : Heap} {k k2 : Nat} {x : Str} {sp : Sp} (c : Ca P w K mg base k x sp) (h : k ≤ k2) : Ca P w K mg base k2 x sp := by
  obtain ⟨f, fd, ps, F, m, kp, b⟩ := c.ex
  exact ⟨f, fd, ps, ⟨F.len, fun A outer s H args us vs Q E hr e hb r q => F.run A outer s H args us vs Q E (hr.mono h) e hb r q⟩, m, kp, b⟩
theorem law_all (T : Tx K mg aK) (D_is_kind : Df K mg "is_kind" s_is_kind) (D_is_name : Df K mg "is_name" s_is_name) (D_is_name_row : Df K mg "is_name_row" s_is_name_row) (D_is_double : Df K mg "is_double" s_is_double) (D_is_record : Df K mg "is_record" s_is_record) (D_check_names : Df K mg "check_names" s_check_names) (D_check_records : Df K mg "check_records" s_check_records) (D_compared : Df K mg "compared" s_compared) (D_comparisons : Df K mg "comparisons" s_comparisons) (D_shorter_ones : Df K mg "shorter_ones" s_shorter_ones) (D_first_order : Df K mg "first_order" s_first_order) (D_find_order : Df K mg "find_order" s_find_order) (D_other_kind : Df K mg "other_kind" s_other_kind) (D_possible_kinds : Df K mg "possible_kinds" s_possible_kinds) (D_l_cell : Df K mg "_law_cell" s_l_cell) (D_l_pool : Df K mg "_law_pool" s_l_pool) (D_l_draw : Df K mg "_law_draw" s_l_draw) (D_l_names : Df K mg "_law_names" s_l_names) (D_l_mixed : Df K mg "_law_mixed" s_l_mixed) (D_l_later : Df K mg "_law_later" s_l_later) (D_l_ranked : Df K mg "_law_ranked" s_l_ranked) (D_l_changed : Df K mg "_law_changed" s_l_changed) (D_l_mirror : Df K mg "_law_mirror" s_l_mirror) (D_l_doubles : Df K mg "_law_doubles" s_l_doubles) (D_l_seen : Df K mg "_law_seen" s_l_seen) (D_l_by_ends : Df K mg "_law_by_ends" s_l_by_ends) (D_l_word_right : Df K mg "_law_word_right" s_l_word_right) (D_l_right : Df K mg "_law_right" s_l_right) {fa : Addr} {fd : FuncData} (F : Fun K "law" "law" s_law fa fd) (base : Heap) : FnG P w K mg base 10 fa fd ["_law_script"] (spLaw K) := by
  have c_is_kind : Ca P w K mg base 1 "is_kind" spIsKind := ca_is_kind T D_is_kind
  have c_is_name : Ca P w K mg base 1 "is_name" spIsName := ca_is_name T D_is_name
  have c_is_name_row : Ca P w K mg base 2 "is_name_row" spIsNameRow := ca_is_name_row T D_is_name_row c_is_name
  have c_is_double : Ca P w K mg base 3 "is_double" spIsDouble := ca_is_double T D_is_double c_is_name_row
  have c_is_record : Ca P w K mg base 4 "is_record" spIsRecord := ca_is_record T D_is_record c_is_kind c_is_double
  obtain ⟨fr, mr, vr⟩ := c_is_record.v
  obtain ⟨f2, m2, v2⟩ := (c_is_double.lift (by decide : 3 ≤ 4)).v
  have c_check_r : Ca P w K mg base 5 "check_names" (spCheck fr spIsRecord) := ca_check_names T D_check_names vr
  have c_check_d : Ca P w K mg base 5 "check_names" (spCheck f2 spIsDouble) := ca_check_names T D_check_names v2
  have c_check_records : Ca P w K mg base 6 "check_records" spCheckRecs := ca_check_records D_check_records mr c_check_r
  have c_compared : Ca P w K mg base 1 "compared" spCompared := ca_compared T D_compared
  have c_comparisons : Ca P w K mg base 5 "comparisons" spComparisons := ca_comparisons T D_comparisons c_is_record c_compared
  have c_sh_l : Ca P w K mg base 2 "shorter_ones" (spShorter .l) := ca_shorter_ones .l T D_shorter_ones c_compared
  have c_sh_t : Ca P w K mg base 2 "shorter_ones" (spShorter .t) := ca_shorter_ones .t T D_shorter_ones c_compared
  have c_first_order : Ca P w K mg base 1 "first_order" spFirst := ca_first_order T D_first_order
  have c_find_order : Ca P w K mg base 7 "find_order" spFind := ca_find_order D_find_order c_check_records c_sh_t c_first_order
  have c_other_kind : Ca P w K mg base 1 "other_kind" spOther := ca_other_kind T D_other_kind
  have c_possible_kinds : Ca P w K mg base 6 "possible_kinds" spPossible := ca_possible_kinds T D_possible_kinds m2 c_check_d c_sh_l c_first_order c_other_kind
  have c_cell : Ca P w K mg base 1 "_law_cell" (spCell K) := ca_l_cell T D_l_cell
  have c_pool : Ca P w K mg base 1 "_law_pool" spPool := ca_l_pool T D_l_pool
  have c_draw : Ca P w K mg base 1 "_law_draw" spDraw := ca_l_draw T D_l_draw
  have c_names : Ca P w K mg base 2 "_law_names" spNames := ca_l_names T D_l_names c_draw
  have c_mixed : Ca P w K mg base 2 "_law_mixed" spMixed := ca_l_mixed T D_l_mixed c_draw
  have c_later : Ca P w K mg base 1 "_law_later" spLater := ca_l_later T D_l_later
  have c_ranked : Ca P w K mg base 1 "_law_ranked" spRanked := ca_l_ranked T D_l_ranked
  have c_changed : Ca P w K mg base 3 "_law_changed" spChanged := ca_l_changed T D_l_changed c_draw c_mixed
  have c_mirror : Ca P w K mg base 1 "_law_mirror" spMirror := ca_l_mirror T D_l_mirror
  have c_doubles : Ca P w K mg base 4 "_law_doubles" spDoubles := ca_l_doubles T D_l_doubles c_draw c_mixed c_later c_ranked c_changed
  have c_seen : Ca P w K mg base 1 "_law_seen" spSeen := ca_l_seen T D_l_seen
  have c_by_ends : Ca P w K mg base 8 "_law_by_ends" spByEnds := ca_l_by_ends T D_l_by_ends c_find_order c_seen c_mirror
  have c_word_right : Ca P w K mg base 8 "_law_word_right" spWordRight := ca_l_word_right T D_l_word_right c_draw c_find_order c_seen c_mirror c_later c_ranked
  have c_right : CaG P w K mg base 9 "_law_right" spRight := ca_l_right T D_l_right c_draw c_names c_doubles c_possible_kinds c_by_ends c_mirror c_word_right c_comparisons
  exact fn_law F T c_cell c_pool c_right
end
theorem all_mk {l : PySem.W.OpenLaw} {w : World} {K : PySem.W.Frag} {h : Heap} {mg : Str → Option Value} {fa : Addr} (X : K.In h) (G : h.Ns mainGlobals mg) (hfa : mg "law" = some (.ref fa))
    {f0 : Addr} {oc0 kV0 dc0 pm0 cd0 ct0 : Value} {od0 an0 : Option Addr} {sl0 : Array (Option Value)} (a0 : PySem.W.nsIn K mainGlobals "is_kind" = some (some (.ref f0))) (l0 : K.lookup f0 = some ⟨oc0, od0, .func (PySem.W.fnOf "is_kind" "is_kind" (defArgs s_is_kind) (defBody s_is_kind) (defScope s_is_kind) .none kV0 dc0 pm0 an0 cd0 ct0), sl0⟩) (c0 : PySem.W.codeIn K cd0 "is_kind" = true) (k0 : PySem.W.keepIn K (.ref f0) = true)
    {f1 : Addr} {oc1 kV1 dc1 pm1 cd1 ct1 : Value} {od1 an1 : Option Addr} {sl1 : Array (Option Value)} (a1 : PySem.W.nsIn K mainGlobals "is_name" = some (some (.ref f1))) (l1 : K.lookup f1 = some ⟨oc1, od1, .func (PySem.W.fnOf "is_name" "is_name" (defArgs s_is_name) (defBody s_is_name) (defScope s_is_name) .none kV1 dc1 pm1 an1 cd1 ct1), sl1⟩) (c1 : PySem.W.codeIn K cd1 "is_name" = true) (k1 : PySem.W.keepIn K (.ref f1) = true)
    {f2 : Addr} {oc2 kV2 dc2 pm2 cd2 ct2 : Value} {od2 an2 : Option Addr} {sl2 : Array (Option Value)} (a2 : PySem.W.nsIn K mainGlobals "is_name_row" = some (some (.ref f2))) (l2 : K.lookup f2 = some ⟨oc2, od2, .func (PySem.W.fnOf "is_name_row" "is_name_row" (defArgs s_is_name_row) (defBody s_is_name_row) (defScope s_is_name_row) .none kV2 dc2 pm2 an2 cd2 ct2), sl2⟩) (c2 : PySem.W.codeIn K cd2 "is_name_row" = true) (k2 : PySem.W.keepIn K (.ref f2) = true)
    {f3 : Addr} {oc3 kV3 dc3 pm3 cd3 ct3 : Value} {od3 an3 : Option Addr} {sl3 : Array (Option Value)} (a3 : PySem.W.nsIn K mainGlobals "is_double" = some (some (.ref f3))) (l3 : K.lookup f3 = some ⟨oc3, od3, .func (PySem.W.fnOf "is_double" "is_double" (defArgs s_is_double) (defBody s_is_double) (defScope s_is_double) .none kV3 dc3 pm3 an3 cd3 ct3), sl3⟩) (c3 : PySem.W.codeIn K cd3 "is_double" = true) (k3 : PySem.W.keepIn K (.ref f3) = true)
    {f4 : Addr} {oc4 kV4 dc4 pm4 cd4 ct4 : Value} {od4 an4 : Option Addr} {sl4 : Array (Option Value)} (a4 : PySem.W.nsIn K mainGlobals "is_record" = some (some (.ref f4))) (l4 : K.lookup f4 = some ⟨oc4, od4, .func (PySem.W.fnOf "is_record" "is_record" (defArgs s_is_record) (defBody s_is_record) (defScope s_is_record) .none kV4 dc4 pm4 an4 cd4 ct4), sl4⟩) (c4 : PySem.W.codeIn K cd4 "is_record" = true) (k4 : PySem.W.keepIn K (.ref f4) = true)
    {f5 : Addr} {oc5 kV5 dc5 pm5 cd5 ct5 : Value} {od5 an5 : Option Addr} {sl5 : Array (Option Value)} (a5 : PySem.W.nsIn K mainGlobals "check_names" = some (some (.ref f5))) (l5 : K.lookup f5 = some ⟨oc5, od5, .func (PySem.W.fnOf "check_names" "check_names" (defArgs s_check_names) (defBody s_check_names) (defScope s_check_names) .none kV5 dc5 pm5 an5 cd5 ct5), sl5⟩) (c5 : PySem.W.codeIn K cd5 "check_names" = true) (k5 : PySem.W.keepIn K (.ref f5) = true)
    {f6 : Addr} {oc6 kV6 dc6 pm6 cd6 ct6 : Value} {od6 an6 : Option Addr} {sl6 : Array (Option Value)} (a6 : PySem.W.nsIn K mainGlobals "check_records" = some (some (.ref f6))) (l6 : K.lookup f6 = some ⟨oc6, od6, .func (PySem.W.fnOf "check_records" "check_records" (defArgs s_check_records) (defBody s_check_records) (defScope s_check_records) .none kV6 dc6 pm6 an6 cd6 ct6), sl6⟩) (c6 : PySem.W.codeIn K cd6 "check_records" = true) (k6 : PySem.W.keepIn K (.ref f6) = true)
    {f7 : Addr} {oc7 kV7 dc7 pm7 cd7 ct7 : Value} {od7 an7 : Option Addr} {sl7 : Array (Option Value)} (a7 : PySem.W.nsIn K mainGlobals "compared" = some (some (.ref f7))) (l7 : K.lookup f7 = some ⟨oc7, od7, .func (PySem.W.fnOf "compared" "compared" (defArgs s_compared) (defBody s_compared) (defScope s_compared) .none kV7 dc7 pm7 an7 cd7 ct7), sl7⟩) (c7 : PySem.W.codeIn K cd7 "compared" = true) (k7 : PySem.W.keepIn K (.ref f7) = true)
    {f8 : Addr} {oc8 kV8 dc8 pm8 cd8 ct8 : Value} {od8 an8 : Option Addr} {sl8 : Array (Option Value)} (a8 : PySem.W.nsIn K mainGlobals "comparisons" = some (some (.ref f8))) (l8 : K.lookup f8 = some ⟨oc8, od8, .func (PySem.W.fnOf "comparisons" "comparisons" (defArgs s_comparisons) (defBody s_comparisons) (defScope s_comparisons) .none kV8 dc8 pm8 an8 cd8 ct8), sl8⟩) (c8 : PySem.W.codeIn K cd8 "comparisons" = true) (k8 : PySem.W.keepIn K (.ref f8) = true)
    {f9 : Addr} {oc9 kV9 dc9 pm9 cd9 ct9 : Value} {od9 an9 : Option Addr} {sl9 : Array (Option Value)} (a9 : PySem.W.nsIn K mainGlobals "shorter_ones" = some (some (.ref f9))) (l9 : K.lookup f9 = some ⟨oc9, od9, .func (PySem.W.fnOf "shorter_ones" "shorter_ones" (defArgs s_shorter_ones) (defBody s_shorter_ones) (defScope s_shorter_ones) .none kV9 dc9 pm9 an9 cd9 ct9), sl9⟩) (c9 : PySem.W.codeIn K cd9 "shorter_ones" = true) (k9 : PySem.W.keepIn K (.ref f9) = true)
    {f10 : Addr} {oc10 kV10 dc10 pm10 cd10 ct10 : Value} {od10 an10 : Option Addr} {sl10 : Array (Option Value)} (a10 : PySem.W.nsIn K mainGlobals "first_order" = some (some (.ref f10))) (l10 : K.lookup f10 = some ⟨oc10, od10, .func (PySem.W.fnOf "first_order" "first_order" (defArgs s_first_order) (defBody s_first_order) (defScope s_first_order) .none kV10 dc10 pm10 an10 cd10 ct10), sl10⟩) (c10 : PySem.W.codeIn K cd10 "first_order" = true) (k10 : PySem.W.keepIn K (.ref f10) = true)
    {f11 : Addr} {oc11 kV11 dc11 pm11 cd11 ct11 : Value} {od11 an11 : Option Addr} {sl11 : Array (Option Value)} (a11 : PySem.W.nsIn K mainGlobals "find_order" = some (some (.ref f11))) (l11 : K.lookup f11 = some ⟨oc11, od11, .func (PySem.W.fnOf "find_order" "find_order" (defArgs s_find_order) (defBody s_find_order) (defScope s_find_order) .none kV11 dc11 pm11 an11 cd11 ct11), sl11⟩) (c11 : PySem.W.codeIn K cd11 "find_order" = true) (k11 : PySem.W.keepIn K (.ref f11) = true)
    {f12 : Addr} {oc12 kV12 dc12 pm12 cd12 ct12 : Value} {od12 an12 : Option Addr} {sl12 : Array (Option Value)} (a12 : PySem.W.nsIn K mainGlobals "other_kind" = some (some (.ref f12))) (l12 : K.lookup f12 = some ⟨oc12, od12, .func (PySem.W.fnOf "other_kind" "other_kind" (defArgs s_other_kind) (defBody s_other_kind) (defScope s_other_kind) .none kV12 dc12 pm12 an12 cd12 ct12), sl12⟩) (c12 : PySem.W.codeIn K cd12 "other_kind" = true) (k12 : PySem.W.keepIn K (.ref f12) = true)
    {f13 : Addr} {oc13 kV13 dc13 pm13 cd13 ct13 : Value} {od13 an13 : Option Addr} {sl13 : Array (Option Value)} (a13 : PySem.W.nsIn K mainGlobals "possible_kinds" = some (some (.ref f13))) (l13 : K.lookup f13 = some ⟨oc13, od13, .func (PySem.W.fnOf "possible_kinds" "possible_kinds" (defArgs s_possible_kinds) (defBody s_possible_kinds) (defScope s_possible_kinds) .none kV13 dc13 pm13 an13 cd13 ct13), sl13⟩) (c13 : PySem.W.codeIn K cd13 "possible_kinds" = true) (k13 : PySem.W.keepIn K (.ref f13) = true)
    {f14 : Addr} {oc14 kV14 dc14 pm14 cd14 ct14 : Value} {od14 an14 : Option Addr} {sl14 : Array (Option Value)} (a14 : PySem.W.nsIn K mainGlobals "_law_cell" = some (some (.ref f14))) (l14 : K.lookup f14 = some ⟨oc14, od14, .func (PySem.W.fnOf "_law_cell" "_law_cell" (defArgs s_l_cell) (defBody s_l_cell) (defScope s_l_cell) .none kV14 dc14 pm14 an14 cd14 ct14), sl14⟩) (c14 : PySem.W.codeIn K cd14 "_law_cell" = true) (k14 : PySem.W.keepIn K (.ref f14) = true)
    {f15 : Addr} {oc15 kV15 dc15 pm15 cd15 ct15 : Value} {od15 an15 : Option Addr} {sl15 : Array (Option Value)} (a15 : PySem.W.nsIn K mainGlobals "_law_pool" = some (some (.ref f15))) (l15 : K.lookup f15 = some ⟨oc15, od15, .func (PySem.W.fnOf "_law_pool" "_law_pool" (defArgs s_l_pool) (defBody s_l_pool) (defScope s_l_pool) .none kV15 dc15 pm15 an15 cd15 ct15), sl15⟩) (c15 : PySem.W.codeIn K cd15 "_law_pool" = true) (k15 : PySem.W.keepIn K (.ref f15) = true)
    {f16 : Addr} {oc16 kV16 dc16 pm16 cd16 ct16 : Value} {od16 an16 : Option Addr} {sl16 : Array (Option Value)} (a16 : PySem.W.nsIn K mainGlobals "_law_draw" = some (some (.ref f16))) (l16 : K.lookup f16 = some ⟨oc16, od16, .func (PySem.W.fnOf "_law_draw" "_law_draw" (defArgs s_l_draw) (defBody s_l_draw) (defScope s_l_draw) .none kV16 dc16 pm16 an16 cd16 ct16), sl16⟩) (c16 : PySem.W.codeIn K cd16 "_law_draw" = true) (k16 : PySem.W.keepIn K (.ref f16) = true)
    {f17 : Addr} {oc17 kV17 dc17 pm17 cd17 ct17 : Value} {od17 an17 : Option Addr} {sl17 : Array (Option Value)} (a17 : PySem.W.nsIn K mainGlobals "_law_names" = some (some (.ref f17))) (l17 : K.lookup f17 = some ⟨oc17, od17, .func (PySem.W.fnOf "_law_names" "_law_names" (defArgs s_l_names) (defBody s_l_names) (defScope s_l_names) .none kV17 dc17 pm17 an17 cd17 ct17), sl17⟩) (c17 : PySem.W.codeIn K cd17 "_law_names" = true) (k17 : PySem.W.keepIn K (.ref f17) = true)
    {f18 : Addr} {oc18 kV18 dc18 pm18 cd18 ct18 : Value} {od18 an18 : Option Addr} {sl18 : Array (Option Value)} (a18 : PySem.W.nsIn K mainGlobals "_law_mixed" = some (some (.ref f18))) (l18 : K.lookup f18 = some ⟨oc18, od18, .func (PySem.W.fnOf "_law_mixed" "_law_mixed" (defArgs s_l_mixed) (defBody s_l_mixed) (defScope s_l_mixed) .none kV18 dc18 pm18 an18 cd18 ct18), sl18⟩) (c18 : PySem.W.codeIn K cd18 "_law_mixed" = true) (k18 : PySem.W.keepIn K (.ref f18) = true)
    {f19 : Addr} {oc19 kV19 dc19 pm19 cd19 ct19 : Value} {od19 an19 : Option Addr} {sl19 : Array (Option Value)} (a19 : PySem.W.nsIn K mainGlobals "_law_later" = some (some (.ref f19))) (l19 : K.lookup f19 = some ⟨oc19, od19, .func (PySem.W.fnOf "_law_later" "_law_later" (defArgs s_l_later) (defBody s_l_later) (defScope s_l_later) .none kV19 dc19 pm19 an19 cd19 ct19), sl19⟩) (c19 : PySem.W.codeIn K cd19 "_law_later" = true) (k19 : PySem.W.keepIn K (.ref f19) = true)
    {f20 : Addr} {oc20 kV20 dc20 pm20 cd20 ct20 : Value} {od20 an20 : Option Addr} {sl20 : Array (Option Value)} (a20 : PySem.W.nsIn K mainGlobals "_law_ranked" = some (some (.ref f20))) (l20 : K.lookup f20 = some ⟨oc20, od20, .func (PySem.W.fnOf "_law_ranked" "_law_ranked" (defArgs s_l_ranked) (defBody s_l_ranked) (defScope s_l_ranked) .none kV20 dc20 pm20 an20 cd20 ct20), sl20⟩) (c20 : PySem.W.codeIn K cd20 "_law_ranked" = true) (k20 : PySem.W.keepIn K (.ref f20) = true)
    {f21 : Addr} {oc21 kV21 dc21 pm21 cd21 ct21 : Value} {od21 an21 : Option Addr} {sl21 : Array (Option Value)} (a21 : PySem.W.nsIn K mainGlobals "_law_changed" = some (some (.ref f21))) (l21 : K.lookup f21 = some ⟨oc21, od21, .func (PySem.W.fnOf "_law_changed" "_law_changed" (defArgs s_l_changed) (defBody s_l_changed) (defScope s_l_changed) .none kV21 dc21 pm21 an21 cd21 ct21), sl21⟩) (c21 : PySem.W.codeIn K cd21 "_law_changed" = true) (k21 : PySem.W.keepIn K (.ref f21) = true)
    {f22 : Addr} {oc22 kV22 dc22 pm22 cd22 ct22 : Value} {od22 an22 : Option Addr} {sl22 : Array (Option Value)} (a22 : PySem.W.nsIn K mainGlobals "_law_mirror" = some (some (.ref f22))) (l22 : K.lookup f22 = some ⟨oc22, od22, .func (PySem.W.fnOf "_law_mirror" "_law_mirror" (defArgs s_l_mirror) (defBody s_l_mirror) (defScope s_l_mirror) .none kV22 dc22 pm22 an22 cd22 ct22), sl22⟩) (c22 : PySem.W.codeIn K cd22 "_law_mirror" = true) (k22 : PySem.W.keepIn K (.ref f22) = true)
    {f23 : Addr} {oc23 kV23 dc23 pm23 cd23 ct23 : Value} {od23 an23 : Option Addr} {sl23 : Array (Option Value)} (a23 : PySem.W.nsIn K mainGlobals "_law_doubles" = some (some (.ref f23))) (l23 : K.lookup f23 = some ⟨oc23, od23, .func (PySem.W.fnOf "_law_doubles" "_law_doubles" (defArgs s_l_doubles) (defBody s_l_doubles) (defScope s_l_doubles) .none kV23 dc23 pm23 an23 cd23 ct23), sl23⟩) (c23 : PySem.W.codeIn K cd23 "_law_doubles" = true) (k23 : PySem.W.keepIn K (.ref f23) = true)
    {f24 : Addr} {oc24 kV24 dc24 pm24 cd24 ct24 : Value} {od24 an24 : Option Addr} {sl24 : Array (Option Value)} (a24 : PySem.W.nsIn K mainGlobals "_law_seen" = some (some (.ref f24))) (l24 : K.lookup f24 = some ⟨oc24, od24, .func (PySem.W.fnOf "_law_seen" "_law_seen" (defArgs s_l_seen) (defBody s_l_seen) (defScope s_l_seen) .none kV24 dc24 pm24 an24 cd24 ct24), sl24⟩) (c24 : PySem.W.codeIn K cd24 "_law_seen" = true) (k24 : PySem.W.keepIn K (.ref f24) = true)
    {f25 : Addr} {oc25 kV25 dc25 pm25 cd25 ct25 : Value} {od25 an25 : Option Addr} {sl25 : Array (Option Value)} (a25 : PySem.W.nsIn K mainGlobals "_law_by_ends" = some (some (.ref f25))) (l25 : K.lookup f25 = some ⟨oc25, od25, .func (PySem.W.fnOf "_law_by_ends" "_law_by_ends" (defArgs s_l_by_ends) (defBody s_l_by_ends) (defScope s_l_by_ends) .none kV25 dc25 pm25 an25 cd25 ct25), sl25⟩) (c25 : PySem.W.codeIn K cd25 "_law_by_ends" = true) (k25 : PySem.W.keepIn K (.ref f25) = true)
    {f26 : Addr} {oc26 kV26 dc26 pm26 cd26 ct26 : Value} {od26 an26 : Option Addr} {sl26 : Array (Option Value)} (a26 : PySem.W.nsIn K mainGlobals "_law_word_right" = some (some (.ref f26))) (l26 : K.lookup f26 = some ⟨oc26, od26, .func (PySem.W.fnOf "_law_word_right" "_law_word_right" (defArgs s_l_word_right) (defBody s_l_word_right) (defScope s_l_word_right) .none kV26 dc26 pm26 an26 cd26 ct26), sl26⟩) (c26 : PySem.W.codeIn K cd26 "_law_word_right" = true) (k26 : PySem.W.keepIn K (.ref f26) = true)
    {f27 : Addr} {oc27 kV27 dc27 pm27 cd27 ct27 : Value} {od27 an27 : Option Addr} {sl27 : Array (Option Value)} (a27 : PySem.W.nsIn K mainGlobals "_law_right" = some (some (.ref f27))) (l27 : K.lookup f27 = some ⟨oc27, od27, .func (PySem.W.fnOf "_law_right" "_law_right" (defArgs s_l_right) (defBody s_l_right) (defScope s_l_right) .none kV27 dc27 pm27 an27 cd27 ct27), sl27⟩) (c27 : PySem.W.codeIn K cd27 "_law_right" = true) (k27 : PySem.W.keepIn K (.ref f27) = true)
    {f28 : Addr} {oc28 kV28 dc28 pm28 cd28 ct28 : Value} {od28 an28 : Option Addr} {sl28 : Array (Option Value)} (a28 : PySem.W.nsIn K mainGlobals "law" = some (some (.ref f28))) (l28 : K.lookup f28 = some ⟨oc28, od28, .func (PySem.W.fnOf "law" "law" (defArgs s_law) (defBody s_law) (defScope s_law) .none kV28 dc28 pm28 an28 cd28 ct28), sl28⟩) (c28 : PySem.W.codeIn K cd28 "law" = true) (k28 : PySem.W.keepIn K (.ref f28) = true)
    (z_isinstance : PySem.W.nsIn K mainGlobals "isinstance" = some none)
    (z_str : PySem.W.nsIn K mainGlobals "str" = some none)
    (z_len : PySem.W.nsIn K mainGlobals "len" = some none)
    (z_all : PySem.W.nsIn K mainGlobals "all" = some none)
    (z_set : PySem.W.nsIn K mainGlobals "set" = some none)
    (z_sorted : PySem.W.nsIn K mainGlobals "sorted" = some none)
    (z_tuple : PySem.W.nsIn K mainGlobals "tuple" = some none)
    (z_enumerate : PySem.W.nsIn K mainGlobals "enumerate" = some none)
    (z_zip : PySem.W.nsIn K mainGlobals "zip" = some none)
    (z_range : PySem.W.nsIn K mainGlobals "range" = some none)
    (z_abs : PySem.W.nsIn K mainGlobals "abs" = some none)
    (z_divmod : PySem.W.nsIn K mainGlobals "divmod" = some none)
    (z_list : PySem.W.nsIn K mainGlobals "list" = some none)
    (z_dict : PySem.W.nsIn K mainGlobals "dict" = some none)
    (z_max : PySem.W.nsIn K mainGlobals "max" = some none)
    (z_min : PySem.W.nsIn K mainGlobals "min" = some none)
    (z_int : PySem.W.nsIn K mainGlobals "int" = some none)
    (z_repr : PySem.W.nsIn K mainGlobals "repr" = some none)
    {t_MOST_PEOPLE : Tok} (g_MOST_PEOPLE : PySem.W.nsIn K mainGlobals "MOST_PEOPLE" = some (some (.int 12 t_MOST_PEOPLE)))
    {t_MOST_LETTERS_OF_NAME : Tok} (g_MOST_LETTERS_OF_NAME : PySem.W.nsIn K mainGlobals "MOST_LETTERS_OF_NAME" = some (some (.int 6 t_MOST_LETTERS_OF_NAME)))
    {t_MOST_RECORDS : Tok} (g_MOST_RECORDS : PySem.W.nsIn K mainGlobals "MOST_RECORDS" = some (some (.int 20 t_MOST_RECORDS)))
    {t_SHORTEST : Tok} {s_SHORTEST : Str} (g_SHORTEST : PySem.W.nsIn K mainGlobals "SHORTEST" = some (some (.str s_SHORTEST t_SHORTEST))) (e_SHORTEST : s_SHORTEST = ("S" : Str))
    {t_TALLEST : Tok} {s_TALLEST : Str} (g_TALLEST : PySem.W.nsIn K mainGlobals "TALLEST" = some (some (.str s_TALLEST t_TALLEST))) (e_TALLEST : s_TALLEST = ("T" : Str))
    {t_LETTERS : Tok} {s_LETTERS : Str} (g_LETTERS : PySem.W.nsIn K mainGlobals "LETTERS" = some (some (.str s_LETTERS t_LETTERS))) (e_LETTERS : s_LETTERS = ("abcdefghijklmnopqrstuvwxyz" : Str))
    {aK : Addr} {z1 z2 : Str} {t1 t2 : Tok} {dd : Option Addr} {nn : Nat} {ssl : Array (Option Value)} (g_KINDS : PySem.W.nsIn K mainGlobals "KINDS" = some (some (.ref aK))) (lK : K.lookup aK = some ⟨.type "tuple", dd, .seq #[.str z1 t1, .str z2 t2] nn, ssl⟩) (e1 : z1 = ("S" : Str)) (e2 : z2 = ("T" : Str)) :
    ∃ fd : FuncData, (∀ (s : Shared) (v : Value), BindsTo s fd ⟨[v], []⟩ [("_law_script", v)]) ∧ ∀ base : Heap, K.In base → base.Ns mainGlobals mg → FnG l.prog w K mg base 10 fa fd ["_law_script"] (spLaw K) := by
  have e := hfa.symm.trans (PySem.W.mg_of X G a28)
  cases e
  subst e_SHORTEST e_TALLEST e_LETTERS e1 e2
  have T : Tx K mg aK := {
    b_isinstance := PySem.W.mg_none_of X G z_isinstance
    b_str := PySem.W.mg_none_of X G z_str
    b_len := PySem.W.mg_none_of X G z_len
    b_all := PySem.W.mg_none_of X G z_all
    b_set := PySem.W.mg_none_of X G z_set
    b_sorted := PySem.W.mg_none_of X G z_sorted
    b_tuple := PySem.W.mg_none_of X G z_tuple
    b_enumerate := PySem.W.mg_none_of X G z_enumerate
    b_zip := PySem.W.mg_none_of X G z_zip
    b_range := PySem.W.mg_none_of X G z_range
    b_abs := PySem.W.mg_none_of X G z_abs
    b_divmod := PySem.W.mg_none_of X G z_divmod
    b_list := PySem.W.mg_none_of X G z_list
    b_dict := PySem.W.mg_none_of X G z_dict
    b_max := PySem.W.mg_none_of X G z_max
    b_min := PySem.W.mg_none_of X G z_min
    b_int := PySem.W.mg_none_of X G z_int
    b_repr := PySem.W.mg_none_of X G z_repr
    g_MOST_PEOPLE := ⟨_, PySem.W.mg_of X G g_MOST_PEOPLE, _, rfl⟩
    g_MOST_LETTERS_OF_NAME := ⟨_, PySem.W.mg_of X G g_MOST_LETTERS_OF_NAME, _, rfl⟩
    g_MOST_RECORDS := ⟨_, PySem.W.mg_of X G g_MOST_RECORDS, _, rfl⟩
    g_SHORTEST := ⟨_, PySem.W.mg_of X G g_SHORTEST, _, rfl⟩
    g_TALLEST := ⟨_, PySem.W.mg_of X G g_TALLEST, _, rfl⟩
    g_LETTERS := ⟨_, PySem.W.mg_of X G g_LETTERS, _, rfl⟩
    g_KINDS := ⟨_, PySem.W.mg_of X G g_KINDS, rfl⟩
    kinds := ⟨_, _, _, lK, rfl, rfl, (by show 2 ≤ sizeLine; decide), .cons ⟨_, rfl⟩ (.cons ⟨_, rfl⟩ .nil)⟩ }
  refine ⟨PySem.W.fnOf "law" "law" (defArgs s_law) (defBody s_law) (defScope s_law) .none kV28 dc28 pm28 an28 cd28 ct28, fun s v => .of_eq rfl, fun base _ _ => law_all T (df_mk X G a0 l0 c0 k0) (df_mk X G a1 l1 c1 k1) (df_mk X G a2 l2 c2 k2) (df_mk X G a3 l3 c3 k3) (df_mk X G a4 l4 c4 k4) (df_mk X G a5 l5 c5 k5) (df_mk X G a6 l6 c6 k6) (df_mk X G a7 l7 c7 k7) (df_mk X G a8 l8 c8 k8) (df_mk X G a9 l9 c9 k9) (df_mk X G a10 l10 c10 k10) (df_mk X G a11 l11 c11 k11) (df_mk X G a12 l12 c12 k12) (df_mk X G a13 l13 c13 k13) (df_mk X G a14 l14 c14 k14) (df_mk X G a15 l15 c15 k15) (df_mk X G a16 l16 c16 k16) (df_mk X G a17 l17 c17 k17) (df_mk X G a18 l18 c18 k18) (df_mk X G a19 l19 c19 k19) (df_mk X G a20 l20 c20 k20) (df_mk X G a21 l21 c21 k21) (df_mk X G a22 l22 c22 k22) (df_mk X G a23 l23 c23 k23) (df_mk X G a24 l24 c24 k24) (df_mk X G a25 l25 c25 k25) (df_mk X G a26 l26 c26 k26) (df_mk X G a27 l27 c27 k27) (fun_mk (st := s_law) l28 c28 k28) base⟩
theorem walk_law {l : PySem.W.OpenLaw} {q : Program} {loose : List Str} {XP : (Str → Option Value) → Heap → Prop} {YP : World → Heap → Prop} {d : DefRec} {K : Params → PySem.W.Frag} (hn : l.most = some 63) (hdf : d.params.defaults = [])
    (hY : ∀ (w : World) (h : Heap), YP w h → (K w.params).In h)
    (F : ∀ (w : World) (mg : Str → Option Value) (fa : Addr) (h : Heap), (K w.params).In h → h.Ns mainGlobals mg → mg d.name = some (.ref fa) →
      ∃ fd : FuncData, (∀ (s : Shared) (u : Value), BindsTo s fd ⟨[u], []⟩ [("_law_script", u)]) ∧ ∀ base : Heap, (K w.params).In base → base.Ns mainGlobals mg → FnG l.prog w (K w.params) mg base 10 fa fd ["_law_script"] (spLaw (K w.params))) :
    PySem.W.WalkO q loose XP YP l.row.toRowW d [] (fun f vs => PySem.call f vs) :=
  walk_ofG (n := 63) (k := 10) (x := "_law_script") (sp := fun w => spLaw (K w.params)) hn (by decide) hdf ⟨rfl, by decide, by decide⟩ hY F (fun _ _ a ns hl hS => ⟨a, ns, rfl, hS, fun _ => rfl⟩)
end LP
open PySem PySem.W PyProof.Rows in
set_option maxRecDepth 100000 in
set_option maxHeartbeats 0 in
theorem PySem.Challenge.cw_lastpasses_k64_whole_mirrored_kinds_holds : PySem.Challenge.rw_lastpasses_k64_whole_mirrored_kinds.Holds := by
  w_on; o_law; k_head; (case hw => w_witness2)
  k_fill
  refine LP.walk_law (l := PySem.Challenge.rw_lastpasses_k64_whole_mirrored_kinds) rfl rfl (fun w h Y => PySem.W.kIn_of Y) ?F
  case F =>
    intro w mg fa h KX G hmg
    refine' LP.all_mk KX G hmg ?a0 ?l0 ?c0 ?k0 ?a1 ?l1 ?c1 ?k1 ?a2 ?l2 ?c2 ?k2 ?a3 ?l3 ?c3 ?k3 ?a4 ?l4 ?c4 ?k4 ?a5 ?l5 ?c5 ?k5 ?a6 ?l6 ?c6 ?k6 ?a7 ?l7 ?c7 ?k7 ?a8 ?l8 ?c8 ?k8 ?a9 ?l9 ?c9 ?k9 ?a10 ?l10 ?c10 ?k10 ?a11 ?l11 ?c11 ?k11 ?a12 ?l12 ?c12 ?k12 ?a13 ?l13 ?c13 ?k13 ?a14 ?l14 ?c14 ?k14 ?a15 ?l15 ?c15 ?k15 ?a16 ?l16 ?c16 ?k16 ?a17 ?l17 ?c17 ?k17 ?a18 ?l18 ?c18 ?k18 ?a19 ?l19 ?c19 ?k19 ?a20 ?l20 ?c20 ?k20 ?a21 ?l21 ?c21 ?k21 ?a22 ?l22 ?c22 ?k22 ?a23 ?l23 ?c23 ?k23 ?a24 ?l24 ?c24 ?k24 ?a25 ?l25 ?c25 ?k25 ?a26 ?l26 ?c26 ?k26 ?a27 ?l27 ?c27 ?k27 ?a28 ?l28 ?c28 ?k28 ?z_isinstance ?z_str ?z_len ?z_all ?z_set ?z_sorted ?z_tuple ?z_enumerate ?z_zip ?z_range ?z_abs ?z_divmod ?z_list ?z_dict ?z_max ?z_min ?z_int ?z_repr ?g_MOST_PEOPLE ?g_MOST_LETTERS_OF_NAME ?g_MOST_RECORDS ?g_SHORTEST ?e_SHORTEST ?g_TALLEST ?e_TALLEST ?g_LETTERS ?e_LETTERS ?g_KINDS ?lK ?e1 ?e2
    (case a0 => k_is)
    (case l0 => k_is)
    (case c0 => k_is)
    (case k0 => k_is)
    (case a1 => k_is)
    (case l1 => k_is)
    (case c1 => k_is)
    (case k1 => k_is)
    (case a2 => k_is)
    (case l2 => k_is)
    (case c2 => k_is)
    (case k2 => k_is)
    (case a3 => k_is)
    (case l3 => k_is)
    (case c3 => k_is)
    (case k3 => k_is)
    (case a4 => k_is)
    (case l4 => k_is)
    (case c4 => k_is)
    (case k4 => k_is)
    (case a5 => k_is)
    (case l5 => k_is)
    (case c5 => k_is)
    (case k5 => k_is)
    (case a6 => k_is)
    (case l6 => k_is)
    (case c6 => k_is)
    (case k6 => k_is)
    (case a7 => k_is)
    (case l7 => k_is)
    (case c7 => k_is)
    (case k7 => k_is)
    (case a8 => k_is)
    (case l8 => k_is)
    (case c8 => k_is)
    (case k8 => k_is)
    (case a9 => k_is)
    (case l9 => k_is)
    (case c9 => k_is)
    (case k9 => k_is)
    (case a10 => k_is)
    (case l10 => k_is)
    (case c10 => k_is)
    (case k10 => k_is)
    (case a11 => k_is)
    (case l11 => k_is)
    (case c11 => k_is)
    (case k11 => k_is)
    (case a12 => k_is)
    (case l12 => k_is)
    (case c12 => k_is)
    (case k12 => k_is)
    (case a13 => k_is)
    (case l13 => k_is)
    (case c13 => k_is)
    (case k13 => k_is)
    (case a14 => k_is)
    (case l14 => k_is)
    (case c14 => k_is)
    (case k14 => k_is)
    (case a15 => k_is)
    (case l15 => k_is)
    (case c15 => k_is)
    (case k15 => k_is)
    (case a16 => k_is)
    (case l16 => k_is)
    (case c16 => k_is)
    (case k16 => k_is)
    (case a17 => k_is)
    (case l17 => k_is)
    (case c17 => k_is)
    (case k17 => k_is)
    (case a18 => k_is)
    (case l18 => k_is)
    (case c18 => k_is)
    (case k18 => k_is)
    (case a19 => k_is)
    (case l19 => k_is)
    (case c19 => k_is)
    (case k19 => k_is)
    (case a20 => k_is)
    (case l20 => k_is)
    (case c20 => k_is)
    (case k20 => k_is)
    (case a21 => k_is)
    (case l21 => k_is)
    (case c21 => k_is)
    (case k21 => k_is)
    (case a22 => k_is)
    (case l22 => k_is)
    (case c22 => k_is)
    (case k22 => k_is)
    (case a23 => k_is)
    (case l23 => k_is)
    (case c23 => k_is)
    (case k23 => k_is)
    (case a24 => k_is)
    (case l24 => k_is)
    (case c24 => k_is)
    (case k24 => k_is)
    (case a25 => k_is)
    (case l25 => k_is)
    (case c25 => k_is)
    (case k25 => k_is)
    (case a26 => k_is)
    (case l26 => k_is)
    (case c26 => k_is)
    (case k26 => k_is)
    (case a27 => k_is)
    (case l27 => k_is)
    (case c27 => k_is)
    (case k27 => k_is)
    (case a28 => k_is)
    (case l28 => k_is)
    (case c28 => k_is)
    (case k28 => k_is)
    (case z_isinstance => k_is)
    (case z_str => k_is)
    (case z_len => k_is)
    (case z_all => k_is)
    (case z_set => k_is)
    (case z_sorted => k_is)
    (case z_tuple => k_is)
    (case z_enumerate => k_is)
    (case z_zip => k_is)
    (case z_range => k_is)
    (case z_abs => k_is)
    (case z_divmod => k_is)
    (case z_list => k_is)
    (case z_dict => k_is)
    (case z_max => k_is)
    (case z_min => k_is)
    (case z_int => k_is)
    (case z_repr => k_is)
    (case g_MOST_PEOPLE => k_is)
    (case g_MOST_LETTERS_OF_NAME => k_is)
    (case g_MOST_RECORDS => k_is)
    (case g_SHORTEST => k_is)
    (case e_SHORTEST => decide +kernel)
    (case g_TALLEST => k_is)
    (case e_TALLEST => decide +kernel)
    (case g_LETTERS => k_is)
    (case e_LETTERS => decide +kernel)
    (case g_KINDS => k_is)
    (case lK => k_is)
    (case e1 => decide +kernel)
    (case e2 => decide +kernel)

