import PyProof.Rows.All
import Wide.All
import OpenK.AllK
import Wide.FinOn
import HandS.ForMost
import HandS.ForExc
import HandS.DictComp
import HandS.SetBool
import HandS.SetTxt0
import PyProof.DictFindH
import HandS.SortRule
import KE.KSortTup
import KE.SortData
import HandS.TupAny
import HandS.Deep
import HandS.IsInst
import HandS.Wide
import HandS.Rev
import HandS.TryOnly
import HandS.WordsExc
import HandS.ExcOwn
import PySem.Challenge.RW_indoubt_k49_whole_facts_in_any_order
set_option Elab.async false
set_option linter.all false
set_option maxRecDepth 100000
set_option maxHeartbeats 4000000
namespace K49
universe u
/-! ### sorting by a total order -/
structure TOrd {α : Type} (le : α → α → Bool) : Prop where
  total : ∀ a b, le a b = true ∨ le b a = true
  trans : ∀ a b c, le a b = true → le b c = true → le a c = true
  anti : ∀ a b, le a b = true → le b a = true → a = b
section
variable {α : Type} {le : α → α → Bool}
def ins (le : α → α → Bool) (x : α) : List α → List α
  | [] => [x]
  | y :: r => if le x y = true then x :: y :: r else y :: ins le x r
def srt (le : α → α → Bool) : List α → List α
  | [] => []
  | x :: r => ins le x (srt le r)
theorem ins_perm (x : α) : ∀ l : List α, (ins le x l).Perm (x :: l)
  | [] => .refl _
  | y :: r => by
    unfold ins
    split
    · exact .refl _
    · exact ((ins_perm x r).cons y).trans (.swap x y r)
theorem srt_perm : ∀ l : List α, (srt le l).Perm l
  | [] => .refl _
  | x :: r => (ins_perm x _).trans ((srt_perm r).cons x)
theorem mem_srt {x : α} {l : List α} : x ∈ srt le l ↔ x ∈ l := (srt_perm l).mem_iff
theorem srt_length (l : List α) : (srt le l).length = l.length := (srt_perm l).length_eq
abbrev Asc (le : α → α → Bool) (l : List α) : Prop := l.Pairwise (fun a b => le a b = true)
theorem ins_asc (o : TOrd le) (x : α) : ∀ l : List α, Asc le l → Asc le (ins le x l)
  | [], _ => List.pairwise_singleton _ _
  | y :: r, h => by
    obtain ⟨h1, h2⟩ := List.pairwise_cons.mp h
    unfold ins
    split
    · rename_i c
      refine List.pairwise_cons.mpr ⟨fun z hz => ?_, h⟩
      rcases List.mem_cons.mp hz with rfl | hz
      · exact c
      · exact o.trans _ _ _ c (h1 z hz)
    · rename_i c
      refine List.pairwise_cons.mpr ⟨fun z hz => ?_, ins_asc o x r h2⟩
      rcases List.mem_cons.mp ((ins_perm x r).mem_iff.mp hz) with rfl | hz
      · exact (o.total y z).resolve_right c
      · exact h1 z hz
theorem srt_asc (o : TOrd le) : ∀ l : List α, Asc le (srt le l)
  | [] => List.Pairwise.nil
  | x :: r => ins_asc o x _ (srt_asc o r)
theorem asc_unique (o : TOrd le) {l l' : List α} (p : l.Perm l') (h : Asc le l) (h' : Asc le l') : l = l' :=
  List.Perm.eq_of_pairwise (fun a b _ _ => o.anti a b) h h' p
theorem srt_of (o : TOrd le) {l l' : List α} (p : l'.Perm l) (h : Asc le l') : l' = srt le l :=
  asc_unique o (p.trans (srt_perm l).symm) h (srt_asc o l)
theorem perm_of_mem {α : Type} [DecidableEq α] {l l' : List α} (d : l.Nodup) (d' : l'.Nodup) (h : ∀ x, x ∈ l ↔ x ∈ l') : l.Perm l' := by
  refine List.perm_iff_count.mpr fun a => ?_
  rw [d.count, d'.count]
  by_cases c : a ∈ l
  · rw [if_pos c, if_pos ((h a).mp c)]
  · rw [if_neg c, if_neg fun z => c ((h a).mpr z)]
theorem asc_ext {α : Type} [DecidableEq α] {le : α → α → Bool} (o : TOrd le) {l l' : List α} (d : l.Nodup) (d' : l'.Nodup) (a : Asc le l) (a' : Asc le l') (h : ∀ x, x ∈ l ↔ x ∈ l') : l = l' :=
  asc_unique o (perm_of_mem d d' h) a a'
end

/-! ### outcomes -/
section
variable {α : Type} [DecidableEq α]
def allO : List α → List (List α)
  | [] => [[]]
  | x :: r => (allO r).map (x :: ·) ++ allO r
theorem allO_cons (x : α) (r : List α) : allO (x :: r) = (allO r).map (x :: ·) ++ allO r := rfl
theorem mem_allO : ∀ {l o : List α}, o ∈ allO l ↔ o.Sublist l
  | [], o => by simp [allO]
  | x :: r, o => by
    unfold allO
    rw [List.mem_append, List.mem_map, List.sublist_cons_iff]
    constructor
    · rintro (⟨q, hq, rfl⟩ | h)
      · exact .inr ⟨q, rfl, mem_allO.mp hq⟩
      · exact .inl (mem_allO.mp h)
    · rintro (h | ⟨q, rfl, hq⟩)
      · exact .inr (mem_allO.mpr h)
      · exact .inl ⟨q, mem_allO.mpr hq, rfl⟩
theorem allO_length : ∀ l : List α, (allO l).length = 2 ^ l.length
  | [] => rfl
  | x :: r => by
    unfold allO
    rw [List.length_append, List.length_map, allO_length r, List.length_cons, Nat.pow_succ]
    omega
theorem allO_sub {l o : List α} (h : o ∈ allO l) {x : α} (hx : x ∈ o) : x ∈ l := (mem_allO.mp h).subset hx

/-- a list whose first sign differs -/
theorem notin_of_allO {x : α} {r o : List α} (hx : x ∉ r) (h : o ∈ allO r) : x ∉ o := fun z => hx (allO_sub h z)

/-- B: the outcomes that are left, without the names that are the same in all of them -/
theorem kept_rows : ∀ (M : List α) (v : α → Bool) (p : List α → Bool), M.Nodup →
    (∀ x ∈ M, v x = false → (∀ o ∈ allO M, p o = true → x ∈ o) ∨ (∀ o ∈ allO M, p o = true → x ∉ o)) →
    ((allO M).filter p).map (·.filter v) = (allO (M.filter v)).filter fun r => decide (r ∈ ((allO M).filter p).map (·.filter v))
  | [], v, p, _, _ => by
    unfold allO
    by_cases h : p [] = true
    · simp [h, allO]
    · simp [h, allO]
  | x :: M, v, p, nd, hc => by
    obtain ⟨hx, nd'⟩ := List.nodup_cons.mp nd
    have hfil : (allO (x :: M)).filter p = (((allO M).filter fun o => p (x :: o)).map (x :: ·)) ++ (allO M).filter p := by
      rw [allO_cons, List.filter_append, List.filter_map]
      rfl
    have m1 : ∀ o, o ∈ allO M → x :: o ∈ allO (x :: M) := fun o h => by
      rw [allO_cons]; exact List.mem_append_left _ (List.mem_map.mpr ⟨o, h, rfl⟩)
    have m2 : ∀ o, o ∈ allO M → o ∈ allO (x :: M) := fun o h => by
      rw [allO_cons]; exact List.mem_append_right _ h
    have c1 : ∀ y ∈ M, v y = false → (∀ o ∈ allO M, p (x :: o) = true → y ∈ o) ∨ (∀ o ∈ allO M, p (x :: o) = true → y ∉ o) := fun y hy hv => by
      have ne : y ≠ x := fun e => hx (e ▸ hy)
      rcases hc y (List.mem_cons_of_mem _ hy) hv with h | h
      · exact .inl fun o ho hp => (List.mem_cons.mp (h _ (m1 o ho) hp)).resolve_left ne
      · exact .inr fun o ho hp z => h _ (m1 o ho) hp (List.mem_cons_of_mem _ z)
    have c2 : ∀ y ∈ M, v y = false → (∀ o ∈ allO M, p o = true → y ∈ o) ∨ (∀ o ∈ allO M, p o = true → y ∉ o) := fun y hy hv => by
      rcases hc y (List.mem_cons_of_mem _ hy) hv with h | h
      · exact .inl fun o ho hp => h _ (m2 o ho) hp
      · exact .inr fun o ho hp => h _ (m2 o ho) hp
    have ih1 := kept_rows M v (fun o => p (x :: o)) nd' c1
    have ih2 := kept_rows M v p nd' c2
    rw [hfil, List.map_append, List.map_map]
    cases hv : v x with
    | true =>
      have e1 : ((fun o : List α => o.filter v) ∘ fun o => x :: o) = (fun o => x :: o) ∘ fun o => o.filter v := by
        funext o
        simp [hv]
      have e2 : (x :: M).filter v = x :: M.filter v := by simp [hv]
      rw [e1, e2, ← List.map_map]
      generalize hA : ((allO M).filter fun o => p (x :: o)).map (·.filter v) = A at ih1 ⊢
      generalize hB : ((allO M).filter p).map (·.filter v) = B at ih2 ⊢
      have xB : ∀ r, x :: r ∉ B := fun r z => by
        rw [← hB] at z
        obtain ⟨o, ho, e⟩ := List.mem_map.mp z
        have : x ∈ o.filter v := by rw [e]; exact List.mem_cons_self
        exact notin_of_allO hx (List.mem_filter.mp ho).1 (List.mem_filter.mp this).1
      rw [allO_cons, List.filter_append, List.filter_map]
      have f1 : (allO (M.filter v)).filter ((fun r => decide (r ∈ A.map (fun o => x :: o) ++ B)) ∘ fun o => x :: o) = (allO (M.filter v)).filter fun r => decide (r ∈ A) := by
        refine List.filter_congr fun r hr => ?_
        show decide (x :: r ∈ A.map (fun o => x :: o) ++ B) = decide (r ∈ A)
        refine decide_eq_decide.mpr ?_
        rw [List.mem_append, List.mem_map]
        constructor
        · rintro (⟨q, hq, e⟩ | h)
          · injection e with _ e; exact e ▸ hq
          · exact absurd h (xB r)
        · exact fun h => .inl ⟨r, h, rfl⟩
      have f2 : (allO (M.filter v)).filter (fun r => decide (r ∈ A.map (fun o => x :: o) ++ B)) = (allO (M.filter v)).filter fun r => decide (r ∈ B) := by
        refine List.filter_congr fun r hr => ?_
        refine decide_eq_decide.mpr ?_
        rw [List.mem_append, List.mem_map]
        constructor
        · rintro (⟨q, hq, e⟩ | h)
          · have : x ∈ r := by rw [← e]; exact List.mem_cons_self
            exact absurd (allO_sub hr this) fun z => hx (List.mem_filter.mp z).1
          · exact h
        · exact .inr
      rw [f1, f2, ← ih1, ← ih2]
    | false =>
      have e2 : (x :: M).filter v = M.filter v := by simp [hv]
      have e1 : ((fun o : List α => o.filter v) ∘ fun o => x :: o) = fun o => o.filter v := by
        funext o
        simp [hv]
      rw [e1, e2]
      rcases hc x List.mem_cons_self hv with h | h
      · have z : (allO M).filter p = [] := List.filter_eq_nil_iff.mpr fun o ho hp => notin_of_allO hx ho (h o (m2 o ho) hp)
        rw [z, List.map_nil, List.append_nil]
        exact ih1
      · have z : ((allO M).filter fun o => p (x :: o)) = [] := List.filter_eq_nil_iff.mpr fun o ho hp => h _ (m1 o ho) hp List.mem_cons_self
        rw [z, List.map_nil, List.nil_append]
        exact ih2
end

/-! ### facts -/
inductive F (α : Type) where
  | tt | ff
  | com (n : α)
  | one (ns : List α)
  | nt (f : F α)
  | im (l r : F α)
  | an (fs : List (F α))
  | oo (fs : List (F α))
section
variable {α : Type}
mutual
def ev : F α → (α → Bool) → Bool
  | .tt, _ => true
  | .ff, _ => false
  | .com n, c => c n
  | .one ns, c => decide ((ns.filter c).length = 1)
  | .nt f, c => !ev f c
  | .im l r, c => ev r c || !ev l c
  | .an fs, c => evA fs c
  | .oo fs, c => evO fs c
def evA : List (F α) → (α → Bool) → Bool
  | [], _ => true
  | f :: r, c => ev f c && evA r c
def evO : List (F α) → (α → Bool) → Bool
  | [], _ => false
  | f :: r, c => ev f c || evO r c
end
mutual
def nm : F α → List α
  | .com n => [n]
  | .one ns => ns
  | .nt f => nm f
  | .im l r => nm l ++ nm r
  | .an fs => nms fs
  | .oo fs => nms fs
  | .tt => []
  | .ff => []
def nms : List (F α) → List α
  | [] => []
  | f :: r => nm f ++ nms r
end
theorem evA_all (c : α → Bool) : ∀ fs : List (F α), evA fs c = fs.all fun f => ev f c
  | [] => rfl
  | f :: r => by rw [evA, evA_all c r, List.all_cons]
theorem evO_any (c : α → Bool) : ∀ fs : List (F α), evO fs c = fs.any fun f => ev f c
  | [] => rfl
  | f :: r => by rw [evO, evO_any c r, List.any_cons]
theorem nms_flat : ∀ fs : List (F α), nms fs = fs.flatMap nm
  | [] => rfl
  | f :: r => by rw [nms, nms_flat r, List.flatMap_cons]
mutual
theorem ev_local {c c' : α → Bool} : ∀ f : F α, (∀ x ∈ nm f, c x = c' x) → ev f c = ev f c'
  | .tt, _ => rfl
  | .ff, _ => rfl
  | .com n, h => h n (by simp [nm])
  | .one ns, h => by
    have e : ns.filter c = ns.filter c' := List.filter_congr fun x hx => h x hx
    unfold ev
    rw [e]
  | .nt f, h => by
    unfold ev
    rw [ev_local f h]
  | .im l r, h => by
    unfold ev
    rw [ev_local l fun x hx => h x (List.mem_append_left _ hx), ev_local r fun x hx => h x (List.mem_append_right _ hx)]
  | .an fs, h => by
    unfold ev
    exact (evs_local fs h).1
  | .oo fs, h => by
    unfold ev
    exact (evs_local fs h).2
theorem evs_local {c c' : α → Bool} : ∀ fs : List (F α), (∀ x ∈ nms fs, c x = c' x) → evA fs c = evA fs c' ∧ evO fs c = evO fs c'
  | [], _ => ⟨rfl, rfl⟩
  | f :: r, h => by
    have h1 := ev_local f fun x hx => h x (List.mem_append_left _ hx)
    have h2 := evs_local r fun x hx => h x (List.mem_append_right _ hx)
    constructor
    · rw [evA, evA, h1, h2.1]
    · rw [evO, evO, h1, h2.2]
end
end

/-! ### names, each once -/
section
variable {α : Type} [DecidableEq α]
def once (acc : List α) (l : List α) : List α := l.foldl (fun a x => if x ∈ a then a else a ++ [x]) acc
theorem once_append (acc l m : List α) : once acc (l ++ m) = once (once acc l) m := by
  unfold once; rw [List.foldl_append]
theorem mem_once : ∀ {l acc : List α} {x : α}, x ∈ once acc l ↔ x ∈ acc ∨ x ∈ l
  | [], acc, x => by simp [once]
  | y :: r, acc, x => by
    have e : once acc (y :: r) = once (if y ∈ acc then acc else acc ++ [y]) r := rfl
    rw [e, mem_once]
    by_cases h : y ∈ acc
    · rw [if_pos h, List.mem_cons]
      constructor
      · rintro (z | z)
        · exact .inl z
        · exact .inr (.inr z)
      · rintro (z | rfl | z)
        · exact .inl z
        · exact .inl h
        · exact .inr z
    · rw [if_neg h, List.mem_append, List.mem_singleton, List.mem_cons]
      exact or_assoc
theorem once_nodup : ∀ {l acc : List α}, acc.Nodup → (once acc l).Nodup
  | [], _, h => h
  | y :: r, acc, h => by
    have e : once acc (y :: r) = once (if y ∈ acc then acc else acc ++ [y]) r := rfl
    rw [e]
    refine once_nodup ?_
    by_cases c : y ∈ acc
    · rw [if_pos c]; exact h
    · rw [if_neg c]
      refine List.nodup_append.mpr ⟨h, List.pairwise_singleton _ _, fun a ha b hb => ?_⟩
      rw [List.mem_singleton] at hb
      rintro rfl
      exact c (hb ▸ ha)
end

/-! ### knowledge -/
section
variable {α : Type} [DecidableEq α] (le : α → α → Bool)
structure Kn (α : Type) where
  dec : List (α × Bool)
  und : List α
  pos : List (List α)
def cnt (W : List (List α)) (x : α) : Nat := (W.filter fun w => decide (x ∈ w)).length
def fixd (W : List (List α)) (x : α) : Bool := decide (cnt W x = 0 ∨ cnt W x = W.length)
def vary (W : List (List α)) (x : α) : Bool := decide (0 < cnt W x ∧ cnt W x < W.length)
def mark (W : List (List α)) (x : α) : α × Bool := (x, decide (0 < cnt W x))
def seen (K w : List α) : List α := K.filter fun x => decide (x ∈ w)
def restr (U o : List α) : List α := o.filter fun x => decide (x ∈ U)
/-- the law's own knowledge -/
def kn (N : List α) (W : List (List α)) : Kn α :=
  { dec := ((srt le N).filter (fixd W)).map (mark W), und := (srt le N).filter (vary W),
    pos := (allO ((srt le N).filter (vary W))).filter fun r => decide (r ∈ W.map (seen ((srt le N).filter (vary W)))) }
/-- pairs in order -/
def leP (p q : α × Bool) : Bool := if p.1 = q.1 then (!p.2 || q.2) else le p.1 q.1
def oldN (k : Kn α) : List α := k.dec.map (·.1) ++ k.und
def freshN (k : Kn α) (names : List α) : List α := srt le (names.filter fun x => !decide (x ∈ oldN k))
def mention (k : Kn α) (names : List α) : Kn α :=
  { dec := k.dec, und := srt le (k.und ++ freshN le k names),
    pos := (allO (srt le (k.und ++ freshN le k names))).filter fun o => decide (restr k.und o ∈ k.pos) }
def keepK (k : Kn α) (outs : List (List α)) : Kn α :=
  { dec := srt (leP le) (k.dec ++ (k.und.filter (fixd outs)).map (mark outs)), und := k.und.filter fun x => !fixd outs x,
    pos := outs.map (restr (k.und.filter fun x => !fixd outs x)) }
def comm (k : Kn α) : List α := (k.dec.filter (·.2)).map (·.1)
/-- which of the outcomes are kept -/
def outsOf (k : Kn α) (f : F α) : List (List α) :=
  (mention le k (once [] (nm f))).pos.filter fun o => ev f fun x => decide (x ∈ comm k ++ o)
def learn (k : Kn α) (f : F α) : Option (Kn α) :=
  if (outsOf le k f).length = 0 then none else some (keepK le (mention le k (once [] (nm f))) (outsOf le k f))
end

section
variable {α : Type} [DecidableEq α] {le : α → α → Bool}
theorem leP_ord (o : TOrd le) : TOrd (leP le) where
  total := fun p q => by
    unfold leP
    by_cases h : p.1 = q.1
    · rw [if_pos h, if_pos h.symm]
      cases p.2 <;> cases q.2 <;> simp
    · rw [if_neg h, if_neg fun z => h z.symm]
      exact o.total _ _
  trans := fun p q r => by
    unfold leP
    intro h1 h2
    by_cases a : p.1 = q.1
    · rw [if_pos a] at h1
      by_cases b : q.1 = r.1
      · rw [if_pos b] at h2
        rw [if_pos (a.trans b)]
        revert h1 h2
        cases p.2 <;> cases q.2 <;> cases r.2 <;> simp
      · rw [if_neg b] at h2
        rw [if_neg fun z => b (a ▸ z), a]
        exact h2
    · rw [if_neg a] at h1
      by_cases b : q.1 = r.1
      · rw [if_neg fun z => a (z.trans b.symm), ← b]
        exact h1
      · rw [if_neg b] at h2
        have t := o.trans _ _ _ h1 h2
        by_cases c : p.1 = r.1
        · exact absurd (o.anti _ _ h1 (by rw [c]; exact h2)) a
        · rw [if_neg c]; exact t
  anti := fun p q => by
    unfold leP
    intro h1 h2
    by_cases a : p.1 = q.1
    · rw [if_pos a] at h1
      rw [if_pos a.symm] at h2
      obtain ⟨p1, p2⟩ := p
      obtain ⟨q1, q2⟩ := q
      cases a
      revert h1 h2
      cases p2 <;> cases q2 <;> simp
    · rw [if_neg a] at h1
      rw [if_neg fun z => a z.symm] at h2
      exact absurd (o.anti _ _ h1 h2) a

theorem cnt_le (W : List (List α)) (x : α) : cnt W x ≤ W.length := List.length_filter_le _ _
theorem cnt_zero {W : List (List α)} {x : α} : cnt W x = 0 ↔ ∀ w ∈ W, x ∉ w := by
  unfold cnt
  rw [List.length_eq_zero_iff, List.filter_eq_nil_iff]
  simp
theorem cnt_all {W : List (List α)} {x : α} : cnt W x = W.length ↔ ∀ w ∈ W, x ∈ w := by
  unfold cnt
  rw [List.length_filter_eq_length_iff]
  simp
theorem cnt_pos {W : List (List α)} {x : α} : 0 < cnt W x ↔ ∃ w ∈ W, x ∈ w := by
  rw [Nat.pos_iff_ne_zero, Ne, cnt_zero]
  simp
theorem vary_not (W : List (List α)) (x : α) : vary W x = !fixd W x := by
  have h := cnt_le W x
  unfold vary fixd
  by_cases c : cnt W x = 0 ∨ cnt W x = W.length
  · rw [decide_eq_true c, decide_eq_false (by omega)] <;> rfl
  · rw [decide_eq_false c, decide_eq_true (by omega)] <;> rfl
theorem fixd_iff {W : List (List α)} {x : α} : fixd W x = true ↔ (∀ w ∈ W, x ∉ w) ∨ ∀ w ∈ W, x ∈ w := by
  unfold fixd
  rw [decide_eq_true_iff, cnt_zero, cnt_all]

/-- the outcomes of all names that are possible -/
def Cyl (N : List α) (W : List (List α)) (c : α → Bool) : Prop := ∃ w ∈ W, ∀ x ∈ N, (c x = true ↔ x ∈ w)
theorem cyl_self {N : List α} {W : List (List α)} {w : List α} (h : w ∈ W) : Cyl N W fun x => decide (x ∈ w) := ⟨w, h, fun x _ => decide_eq_true_iff⟩
theorem all_iff {N : List α} {W : List (List α)} {x : α} (hx : x ∈ N) : (∀ w ∈ W, x ∈ w) ↔ ∀ c, Cyl N W c → c x = true := by
  constructor
  · rintro h c ⟨w, hw, e⟩
    exact (e x hx).mpr (h w hw)
  · intro h w hw
    exact decide_eq_true_iff.mp (h _ (cyl_self hw))
theorem no_iff {N : List α} {W : List (List α)} {x : α} (hx : x ∈ N) : (∀ w ∈ W, x ∉ w) ↔ ∀ c, Cyl N W c → c x = false := by
  constructor
  · rintro h c ⟨w, hw, e⟩
    exact Bool.eq_false_iff.mpr fun z => h w hw ((e x hx).mp z)
  · intro h w hw z
    have := h _ (cyl_self hw)
    rw [decide_eq_true z] at this
    cases this

/-- knowledge is told by its names and the outcomes that it lets -/
theorem kn_ext (o : TOrd le) {N N' : List α} {W W' : List (List α)} (d : N.Nodup) (d' : N'.Nodup) (hn : ∀ x, x ∈ N ↔ x ∈ N') (hc : ∀ c, Cyl N W c ↔ Cyl N' W' c) : kn le N W = kn le N' W' := by
  have eS : srt le N = srt le N' := srt_of o ((srt_perm N).trans (perm_of_mem d d' hn)) (srt_asc o N)
  have no : ∀ x, x ∈ N → ((∀ w ∈ W, x ∉ w) ↔ ∀ w ∈ W', x ∉ w) := fun x hx => by
    rw [no_iff hx, no_iff ((hn x).mp hx)]
    exact ⟨fun h c q => h c ((hc c).mpr q), fun h c q => h c ((hc c).mp q)⟩
  have al : ∀ x, x ∈ N → ((∀ w ∈ W, x ∈ w) ↔ ∀ w ∈ W', x ∈ w) := fun x hx => by
    rw [all_iff hx, all_iff ((hn x).mp hx)]
    exact ⟨fun h c q => h c ((hc c).mpr q), fun h c q => h c ((hc c).mp q)⟩
  have ef : ∀ x ∈ srt le N, fixd W x = fixd W' x := fun x hx => by
    have hx := mem_srt.mp hx
    refine Bool.eq_iff_iff.mpr ?_
    rw [fixd_iff, fixd_iff, no x hx, al x hx]
  have ev' : ∀ x ∈ srt le N, vary W x = vary W' x := fun x hx => by rw [vary_not, vary_not, ef x hx]
  have em : ∀ x ∈ srt le N, mark W x = mark W' x := fun x hx => by
    have hx := mem_srt.mp hx
    unfold mark
    have : (0 < cnt W x) ↔ 0 < cnt W' x := by
      rw [Nat.pos_iff_ne_zero, Nat.pos_iff_ne_zero, Ne, Ne, cnt_zero, cnt_zero, no x hx]
    rw [decide_eq_decide.mpr this]
  have e1 : (srt le N).filter (fixd W) = (srt le N).filter (fixd W') := List.filter_congr ef
  have e2 : (srt le N).filter (vary W) = (srt le N).filter (vary W') := List.filter_congr ev'
  unfold kn
  rw [← eS, ← e1, ← e2]
  congr 1
  · exact List.map_congr_left fun x hx => em x (List.mem_filter.mp hx).1
  · refine List.filter_congr fun r _ => decide_eq_decide.mpr ?_
    generalize hK : (srt le N).filter (vary W) = K
    have kN : ∀ x ∈ K, x ∈ N := fun x hx => by
      rw [← hK] at hx
      exact mem_srt.mp (List.mem_filter.mp hx).1
    have row : ∀ {N : List α} {W : List (List α)}, (∀ x ∈ K, x ∈ N) → (r ∈ W.map (seen K) ↔ ∃ c, Cyl N W c ∧ r = K.filter c) := fun {N W} kN => by
      rw [List.mem_map]
      constructor
      · rintro ⟨w, hw, rfl⟩
        exact ⟨_, cyl_self hw, rfl⟩
      · rintro ⟨c, ⟨w, hw, e⟩, rfl⟩
        refine ⟨w, hw, ?_⟩
        unfold seen
        refine List.filter_congr fun x hx => ?_
        refine Bool.eq_iff_iff.mpr ?_
        rw [decide_eq_true_iff, e x (kN x hx)]
    rw [row kN, row fun x hx => (hn x).mp (kN x hx)]
    exact ⟨fun ⟨c, q, e⟩ => ⟨c, (hc c).mp q, e⟩, fun ⟨c, q, e⟩ => ⟨c, (hc c).mpr q, e⟩⟩
end

/-! ### learning -/
section
variable {α : Type} [DecidableEq α] {le : α → α → Bool}
theorem kn_dec {N : List α} {W : List (List α)} {p : α × Bool} : p ∈ (kn le N W).dec ↔ p.1 ∈ N ∧ fixd W p.1 = true ∧ p.2 = decide (0 < cnt W p.1) := by
  show p ∈ ((srt le N).filter (fixd W)).map (mark W) ↔ _
  rw [List.mem_map]
  constructor
  · rintro ⟨x, hx, rfl⟩
    obtain ⟨h1, h2⟩ := List.mem_filter.mp hx
    exact ⟨mem_srt.mp h1, h2, rfl⟩
  · rintro ⟨h1, h2, h3⟩
    refine ⟨p.1, List.mem_filter.mpr ⟨mem_srt.mpr h1, h2⟩, ?_⟩
    unfold mark
    rw [← h3]
theorem kn_und {N : List α} {W : List (List α)} {x : α} : x ∈ (kn le N W).und ↔ x ∈ N ∧ fixd W x = false := by
  show x ∈ (srt le N).filter (vary W) ↔ _
  rw [List.mem_filter, mem_srt, vary_not, Bool.not_eq_true']
theorem kn_old {N : List α} {W : List (List α)} {x : α} : x ∈ oldN (kn le N W) ↔ x ∈ N := by
  unfold oldN
  rw [List.mem_append, List.mem_map, kn_und]
  constructor
  · rintro (⟨p, hp, rfl⟩ | h)
    · exact (kn_dec.mp hp).1
    · exact h.1
  · intro h
    cases e : fixd W x with
    | true => exact .inl ⟨(x, decide (0 < cnt W x)), kn_dec.mpr ⟨h, e, rfl⟩, rfl⟩
    | false => exact .inr ⟨h, rfl⟩
theorem kn_comm {N : List α} {W : List (List α)} {x : α} : x ∈ comm (kn le N W) ↔ x ∈ N ∧ fixd W x = true ∧ 0 < cnt W x := by
  unfold comm
  rw [List.mem_map]
  constructor
  · rintro ⟨p, hp, rfl⟩
    obtain ⟨h1, h2⟩ := List.mem_filter.mp hp
    obtain ⟨a, b, c⟩ := kn_dec.mp h1
    rw [h2] at c
    exact ⟨a, b, decide_eq_true_iff.mp c.symm⟩
  · rintro ⟨a, b, c⟩
    exact ⟨(x, true), List.mem_filter.mpr ⟨kn_dec.mpr ⟨a, b, (decide_eq_true c).symm⟩, rfl⟩, rfl⟩
theorem fix_comm {N : List α} {W : List (List α)} {x : α} {w : List α} (hx : x ∈ N) (hf : fixd W x = true) (hw : w ∈ W) : x ∈ comm (kn le N W) ↔ x ∈ w := by
  rw [kn_comm, cnt_pos]
  rcases fixd_iff.mp hf with h | h
  · exact ⟨fun ⟨_, _, v, hv, z⟩ => absurd z (h v hv), fun z => absurd z (h w hw)⟩
  · exact ⟨fun _ => h w hw, fun z => ⟨hx, hf, w, hw, z⟩⟩
theorem fresh_mem {N : List α} {W : List (List α)} {names : List α} {x : α} : x ∈ freshN le (kn le N W) names ↔ x ∈ names ∧ x ∉ N := by
  unfold freshN
  rw [mem_srt, List.mem_filter, Bool.not_eq_true', decide_eq_false_iff_not, kn_old]
section
variable (o : TOrd le) {N : List α} {W : List (List α)} {names : List α} (d : N.Nodup) (dn : names.Nodup)
include d in
theorem und_nodup : (kn le N W).und.Nodup := by
  show ((srt le N).filter (vary W)).Nodup
  exact ((srt_perm N).nodup_iff.mpr d).filter _
include o in
theorem und_asc : Asc le (kn le N W).und := by
  show Asc le ((srt le N).filter (vary W))
  exact (srt_asc o N).filter _
include dn in
theorem fresh_nodup : (freshN le (kn le N W) names).Nodup := by
  unfold freshN
  exact (srt_perm _).nodup_iff.mpr (dn.filter _)
include d dn in
theorem merged_nodup : (srt le ((kn le N W).und ++ freshN le (kn le N W) names)).Nodup := by
  refine (srt_perm _).nodup_iff.mpr (List.nodup_append.mpr ⟨und_nodup d, fresh_nodup dn, fun a ha b hb e => ?_⟩)
  subst e
  exact (fresh_mem.mp hb).2 (kn_und.mp ha).1
include d dn in
theorem names_nodup : (N ++ freshN le (kn le N W) names).Nodup :=
  List.nodup_append.mpr ⟨d, fresh_nodup dn, fun a ha b hb e => (fresh_mem.mp hb).2 (e ▸ ha)⟩
theorem merged_mem {x : α} : x ∈ srt le ((kn le N W).und ++ freshN le (kn le N W) names) ↔ (x ∈ N ∧ fixd W x = false) ∨ (x ∈ names ∧ x ∉ N) := by
  rw [mem_srt, List.mem_append, kn_und, fresh_mem]
include o d dn in
theorem pos_iff {w : List α} (hw : w ∈ allO (srt le ((kn le N W).und ++ freshN le (kn le N W) names))) :
    restr (kn le N W).und w ∈ (kn le N W).pos ↔ ∃ v ∈ W, ∀ x ∈ (kn le N W).und, (x ∈ w ↔ x ∈ v) := by
  have hs := mem_allO.mp hw
  have nw : w.Nodup := List.Pairwise.sublist hs (merged_nodup d dn)
  have aw : Asc le w := List.Pairwise.sublist hs (srt_asc o _)
  have e : restr (kn le N W).und w = (kn le N W).und.filter fun x => decide (x ∈ w) := by
    refine asc_ext o (nw.filter _) ((und_nodup d).filter _) (aw.filter _) ((und_asc o).filter _) fun x => ?_
    rw [restr, List.mem_filter, List.mem_filter, decide_eq_true_iff, decide_eq_true_iff]
    exact And.comm
  rw [e]
  show _ ∈ (allO (kn le N W).und).filter (fun r => decide (r ∈ W.map (seen (kn le N W).und))) ↔ _
  rw [List.mem_filter, decide_eq_true_iff, List.mem_map]
  constructor
  · rintro ⟨_, v, hv, q⟩
    refine ⟨v, hv, fun x hx => ?_⟩
    have m : x ∈ seen (kn le N W).und v ↔ x ∈ (kn le N W).und.filter fun x => decide (x ∈ w) := by rw [q]
    rw [seen, List.mem_filter, List.mem_filter, decide_eq_true_iff, decide_eq_true_iff] at m
    exact ⟨fun z => (m.mpr ⟨hx, z⟩).2, fun z => (m.mp ⟨hx, z⟩).2⟩
  · rintro ⟨v, hv, q⟩
    refine ⟨mem_allO.mpr List.filter_sublist, v, hv, ?_⟩
    unfold seen
    exact List.filter_congr fun x hx => decide_eq_decide.mpr (q x hx).symm
include o d dn in
theorem cyl_step (hW : W ≠ []) {f : F α} (hn : ∀ x, x ∈ names ↔ x ∈ nm f) {outs : List (List α)}
    (ho : ∀ w, w ∈ outs ↔ w ∈ allO (srt le ((kn le N W).und ++ freshN le (kn le N W) names)) ∧ restr (kn le N W).und w ∈ (kn le N W).pos ∧ ev f (fun x => decide (x ∈ comm (kn le N W) ++ w)) = true) (c : α → Bool) :
    Cyl (N ++ freshN le (kn le N W) names) (outs.map (comm (kn le N W) ++ ·)) c ↔ Cyl N W c ∧ ev f c = true := by
  have fx : ∀ x, x ∈ nm f → x ∈ N ++ freshN le (kn le N W) names := fun x hx => by
    rw [List.mem_append, fresh_mem]
    by_cases h : x ∈ N
    · exact .inl h
    · exact .inr ⟨(hn x).mpr hx, h⟩
  constructor
  · rintro ⟨v, hv, q⟩
    obtain ⟨w, hw, rfl⟩ := List.mem_map.mp hv
    obtain ⟨h1, h2, h3⟩ := (ho w).mp hw
    obtain ⟨u, hu, h2⟩ := (pos_iff o d dn h1).mp h2
    refine ⟨⟨u, hu, fun x hx => ?_⟩, ?_⟩
    · rw [q x (List.mem_append_left _ hx), List.mem_append]
      cases e : fixd W x with
      | true =>
        have nw : x ∉ w := fun z => by
          rcases merged_mem.mp (allO_sub h1 z) with k | k
          · rw [e] at k; exact absurd k.2 (by decide)
          · exact k.2 hx
        rw [fix_comm hx e hu]
        exact ⟨fun z => z.resolve_right nw, .inl⟩
      | false =>
        have nc : x ∉ comm (kn le N W) := fun z => by
          have := (kn_comm.mp z).2.1
          rw [e] at this; cases this
        rw [h2 x (kn_und.mpr ⟨hx, e⟩)]
        exact ⟨fun z => z.resolve_left nc, .inr⟩
    · rw [← h3]
      refine ev_local f fun x hx => ?_
      refine Bool.eq_iff_iff.mpr ?_
      rw [q x (fx x hx), decide_eq_true_iff]
  · rintro ⟨⟨u, hu, q⟩, hf⟩
    let M := srt le ((kn le N W).und ++ freshN le (kn le N W) names)
    have hM : ∀ x, x ∈ M ↔ (x ∈ N ∧ fixd W x = false) ∨ (x ∈ names ∧ x ∉ N) := fun x => merged_mem
    have key : ∀ x ∈ N ++ freshN le (kn le N W) names, (c x = true ↔ x ∈ comm (kn le N W) ++ M.filter c) := fun x hx => by
      rw [List.mem_append, List.mem_filter]
      rcases List.mem_append.mp hx with hx | hx
      · cases e : fixd W x with
        | true =>
          have nM : x ∉ M := fun z => by
            rcases (hM x).mp z with k | k
            · rw [e] at k; exact absurd k.2 (by decide)
            · exact k.2 hx
          rw [q x hx, fix_comm hx e hu]
          exact ⟨.inl, fun z => z.resolve_right fun k => nM k.1⟩
        | false =>
          have nc : x ∉ comm (kn le N W) := fun z => by
            have := (kn_comm.mp z).2.1
            rw [e] at this; cases this
          have hxM : x ∈ M := (hM x).mpr (.inl ⟨hx, e⟩)
          exact ⟨fun z => .inr ⟨hxM, z⟩, fun z => (z.resolve_left nc).2⟩
      · have hx' := fresh_mem.mp hx
        have nc : x ∉ comm (kn le N W) := fun z => hx'.2 (kn_comm.mp z).1
        have hxM : x ∈ M := (hM x).mpr (.inr hx')
        exact ⟨fun z => .inr ⟨hxM, z⟩, fun z => (z.resolve_left nc).2⟩
    have h1 : M.filter c ∈ allO M := mem_allO.mpr List.filter_sublist
    refine ⟨comm (kn le N W) ++ M.filter c, List.mem_map.mpr ⟨M.filter c, (ho _).mpr ⟨h1, (pos_iff o d dn h1).mpr ⟨u, hu, fun x hx => ?_⟩, ?_⟩, rfl⟩, key⟩
    · have hx' := kn_und.mp hx
      rw [List.mem_filter, ← q x hx'.1]
      exact ⟨fun z => z.2, fun z => ⟨(hM x).mpr (.inl hx'), z⟩⟩
    · rw [← hf]
      refine ev_local f fun x hx => ?_
      refine Bool.eq_iff_iff.mpr ?_
      rw [decide_eq_true_iff, key x (fx x hx)]
include o d dn in
theorem keep_kn (hW : W ≠ []) {outs : List (List α)} {p : List α → Bool} (hne : outs ≠ [])
    (ho : outs = (allO (srt le ((kn le N W).und ++ freshN le (kn le N W) names))).filter p) :
    keepK le (mention le (kn le N W) names) outs = kn le (N ++ freshN le (kn le N W) names) (outs.map (comm (kn le N W) ++ ·)) := by
  generalize hN' : N ++ freshN le (kn le N W) names = N'
  have dN' : N'.Nodup := by rw [← hN']; exact names_nodup d dn
  have mN' : ∀ x, x ∈ N' ↔ x ∈ N ∨ (x ∈ names ∧ x ∉ N) := fun x => by rw [← hN', List.mem_append, fresh_mem]
  generalize hM : srt le ((kn le N W).und ++ freshN le (kn le N W) names) = M at ho
  have dM : M.Nodup := by rw [← hM]; exact merged_nodup d dn
  have aM : Asc le M := by rw [← hM]; exact srt_asc o _
  have mM : ∀ x, x ∈ M ↔ (x ∈ N ∧ fixd W x = false) ∨ (x ∈ names ∧ x ∉ N) := fun x => by rw [← hM]; exact merged_mem
  have sub : ∀ w ∈ outs, ∀ x ∈ w, x ∈ M := fun w hw x hx => by
    rw [ho] at hw
    exact allO_sub (List.mem_filter.mp hw).1 hx
  generalize hC : comm (kn le N W) = C
  have mC : ∀ x, x ∈ C ↔ x ∈ N ∧ fixd W x = true ∧ 0 < cnt W x := fun x => by rw [← hC]; exact kn_comm
  generalize hV : outs.map (C ++ ·) = V
  -- a name that was decided
  have inV1 : ∀ x, x ∈ N → fixd W x = true → ∀ v ∈ V, (x ∈ v ↔ x ∈ C) := fun x hx e v hv => by
    rw [← hV] at hv
    obtain ⟨w, hw, rfl⟩ := List.mem_map.mp hv
    rw [List.mem_append]
    refine ⟨fun z => z.resolve_right fun k => ?_, .inl⟩
    rcases (mM x).mp (sub w hw x k) with k | k
    · rw [e] at k; exact absurd k.2 (by decide)
    · exact k.2 hx
  have hVne : V ≠ [] := by
    rw [← hV]
    exact fun z => hne (List.map_eq_nil_iff.mp z)
  have nCM : ∀ x, x ∈ M → x ∉ C := fun x hx z => by
    have z := (mC x).mp z
    rcases (mM x).mp hx with k | k
    · rw [z.2.1] at k; exact absurd k.2 (by decide)
    · exact k.2 z.1
  have cV : ∀ x, x ∈ M → cnt V x = cnt outs x := fun x hx => by
    unfold cnt
    rw [← hV, List.filter_map, List.length_map]
    refine congrArg List.length (List.filter_congr fun w hw => ?_)
    show decide (x ∈ C ++ w) = decide (x ∈ w)
    refine decide_eq_decide.mpr ?_
    rw [List.mem_append]
    exact ⟨fun z => z.resolve_left (nCM x hx), .inr⟩
  have lV : V.length = outs.length := by rw [← hV, List.length_map]
  have fV : ∀ x, x ∈ M → fixd V x = fixd outs x := fun x hx => by unfold fixd; rw [cV x hx, lV]
  have fD : ∀ x, x ∈ N → fixd W x = true → fixd V x = true := fun x hx e => by
    rw [fixd_iff]
    by_cases h : x ∈ C
    · exact .inr fun v hv => (inV1 x hx e v hv).mpr h
    · exact .inl fun v hv z => h ((inV1 x hx e v hv).mp z)
  have pD : ∀ x, x ∈ N → fixd W x = true → (0 < cnt V x ↔ 0 < cnt W x) := fun x hx e => by
    have : 0 < cnt V x ↔ x ∈ C := by
      rw [cnt_pos]
      constructor
      · rintro ⟨v, hv, z⟩
        exact (inV1 x hx e v hv).mp z
      · intro z
        obtain ⟨v, hv⟩ := List.exists_mem_of_ne_nil V hVne
        exact ⟨v, hv, (inV1 x hx e v hv).mpr z⟩
    rw [this, mC]
    exact ⟨fun z => z.2.2, fun z => ⟨hx, e, z⟩⟩
  have mMN : ∀ x, x ∈ M → x ∈ N' := fun x hx => by
    rw [mN']
    exact ((mM x).mp hx).imp And.left id
  have split : ∀ x, x ∈ N' → x ∈ M ∨ (x ∈ N ∧ fixd W x = true) := fun x hx => by
    rcases (mN' x).mp hx with h | h
    · cases e : fixd W x with
      | true => exact .inr ⟨h, rfl⟩
      | false => exact .inl ((mM x).mpr (.inl ⟨h, e⟩))
    · exact .inl ((mM x).mpr (.inr h))
  -- the names that stay undecided
  have eU : M.filter (fun x => !fixd outs x) = (srt le N').filter (vary V) := by
    refine asc_ext o (dM.filter _) (((srt_perm N').nodup_iff.mpr dN').filter _) (aM.filter _) ((srt_asc o N').filter _) fun x => ?_
    rw [List.mem_filter, List.mem_filter, mem_srt, vary_not]
    constructor
    · rintro ⟨h1, h2⟩
      exact ⟨mMN x h1, by rw [fV x h1]; exact h2⟩
    · rintro ⟨h1, h2⟩
      rcases split x h1 with h | ⟨h, e⟩
      · exact ⟨h, by rw [← fV x h]; exact h2⟩
      · rw [fD x h e] at h2; cases h2
  -- the pairs
  have eD : srt (leP le) ((kn le N W).dec ++ (M.filter (fixd outs)).map (mark outs)) = ((srt le N').filter (fixd V)).map (mark V) := by
    have mkN : ∀ {S : List α} {T : List (List α)}, S.Nodup → (S.map (mark T)).Nodup := fun {S T} h => by
      refine List.Pairwise.map _ (fun a b hab z => hab ?_) h
      exact congrArg Prod.fst z
    have nd1 : ((kn le N W).dec ++ (M.filter (fixd outs)).map (mark outs)).Nodup := by
      refine List.nodup_append.mpr ⟨mkN (((srt_perm N).nodup_iff.mpr d).filter _), mkN (dM.filter _), fun a ha b hb e => ?_⟩
      subst e
      have h1 := kn_dec.mp ha
      obtain ⟨x, hx, rfl⟩ := List.mem_map.mp hb
      rcases (mM x).mp (List.mem_filter.mp hx).1 with k | k
      · have h2 : fixd W x = true := h1.2.1
        rw [k.2] at h2; cases h2
      · exact k.2 h1.1
    have nd2 : (((srt le N').filter (fixd V)).map (mark V)).Nodup := mkN (((srt_perm N').nodup_iff.mpr dN').filter _)
    have as2 : Asc (leP le) (((srt le N').filter (fixd V)).map (mark V)) := by
      have a1 : Asc le ((srt le N').filter (fixd V)) := (srt_asc o N').filter _
      have n1 : ((srt le N').filter (fixd V)).Nodup := ((srt_perm N').nodup_iff.mpr dN').filter _
      refine List.Pairwise.map _ (fun a b hab => ?_) (List.pairwise_and_iff.mpr ⟨a1, n1⟩)
      show leP le (mark V a) (mark V b) = true
      unfold leP
      rw [if_neg (show ¬ (mark V a).1 = (mark V b).1 from hab.2)]
      exact hab.1
    refine (srt_of (leP_ord o) (perm_of_mem nd2 nd1 fun q => ?_) as2).symm
    rw [List.mem_append, List.mem_map, List.mem_map, kn_dec]
    constructor
    · rintro ⟨x, hx, rfl⟩
      obtain ⟨h1, h2⟩ := List.mem_filter.mp hx
      rcases split x (mem_srt.mp h1) with h | ⟨h, e⟩
      · refine .inr ⟨x, List.mem_filter.mpr ⟨h, by rw [← fV x h]; exact h2⟩, ?_⟩
        unfold mark
        rw [cV x h]
      · exact .inl ⟨h, e, decide_eq_decide.mpr (pD x h e)⟩
    · rintro (⟨h1, h2, h3⟩ | ⟨x, hx, rfl⟩)
      · refine ⟨q.1, List.mem_filter.mpr ⟨mem_srt.mpr ((mN' _).mpr (.inl h1)), fD _ h1 h2⟩, ?_⟩
        unfold mark
        rw [decide_eq_decide.mpr (pD _ h1 h2), ← h3]
      · obtain ⟨h1, h2⟩ := List.mem_filter.mp hx
        refine ⟨x, List.mem_filter.mpr ⟨mem_srt.mpr (mMN x h1), by rw [fV x h1]; exact h2⟩, ?_⟩
        unfold mark
        rw [cV x h1]
  -- the outcomes
  have eP : outs.map (restr (M.filter fun x => !fixd outs x)) = (allO ((srt le N').filter (vary V))).filter fun r => decide (r ∈ V.map (seen ((srt le N').filter (vary V)))) := by
    rw [← eU]
    have r1 : ∀ w ∈ outs, restr (M.filter fun x => !fixd outs x) w = w.filter fun x => !fixd outs x := fun w hw => by
      unfold restr
      refine List.filter_congr fun x hx => ?_
      refine Bool.eq_iff_iff.mpr ?_
      rw [decide_eq_true_iff, List.mem_filter]
      exact ⟨fun z => z.2, fun z => ⟨sub w hw x hx, z⟩⟩
    have e1 : outs.map (restr (M.filter fun x => !fixd outs x)) = outs.map fun w => w.filter fun x => !fixd outs x := List.map_congr_left r1
    have e2 : V.map (seen (M.filter fun x => !fixd outs x)) = outs.map fun w => w.filter fun x => !fixd outs x := by
      rw [← hV, List.map_map]
      refine List.map_congr_left fun w hw => ?_
      show seen (M.filter fun x => !fixd outs x) (C ++ w) = w.filter fun x => !fixd outs x
      have hsub : w.Sublist M := by
        rw [ho] at hw
        exact mem_allO.mp (List.mem_filter.mp hw).1
      unfold seen
      refine asc_ext o ((dM.filter _).filter _) ((List.Pairwise.sublist hsub dM).filter _) ((aM.filter _).filter _) ((List.Pairwise.sublist hsub aM).filter _) fun x => ?_
      rw [List.mem_filter, List.mem_filter, List.mem_filter, decide_eq_true_iff, List.mem_append]
      constructor
      · rintro ⟨⟨h1, h2⟩, h3⟩
        exact ⟨h3.resolve_left (nCM x h1), h2⟩
      · rintro ⟨h1, h2⟩
        exact ⟨⟨hsub.subset h1, h2⟩, .inr h1⟩
    rw [e1, e2]
    have hc : ∀ x ∈ M, (!fixd outs x) = false → (∀ w ∈ allO M, p w = true → x ∈ w) ∨ (∀ w ∈ allO M, p w = true → x ∉ w) := fun x _ hx => by
      have : fixd outs x = true := by simpa using hx
      rcases fixd_iff.mp this with h | h
      · exact .inr fun w hw hp => h w (by rw [ho]; exact List.mem_filter.mpr ⟨hw, hp⟩)
      · exact .inl fun w hw hp => h w (by rw [ho]; exact List.mem_filter.mpr ⟨hw, hp⟩)
    have q := kept_rows M (fun x => !fixd outs x) p dM hc
    rw [← ho] at q
    exact q
  have q1 : (mention le (kn le N W) names).und = M := hM
  have q2 : (mention le (kn le N W) names).dec = (kn le N W).dec := rfl
  unfold keepK
  rw [q1, q2, eD, eP, eU]
  rfl
end

/-- N is known, of all outcomes those with P are possible -/
def Rep (le : α → α → Bool) (k : Kn α) (N : List α) (P : (α → Bool) → Prop) : Prop :=
  N.Nodup ∧ ∃ W : List (List α), W ≠ [] ∧ k = kn le N W ∧ ∀ c, P c ↔ Cyl N W c
theorem Rep.unique (o : TOrd le) {k k' : Kn α} {N N' : List α} {P P' : (α → Bool) → Prop} (h : Rep le k N P) (h' : Rep le k' N' P') (hn : ∀ x, x ∈ N ↔ x ∈ N') (hp : ∀ c, P c ↔ P' c) : k = k' := by
  obtain ⟨d, W, _, rfl, e⟩ := h
  obtain ⟨d', W', _, rfl, e'⟩ := h'
  exact kn_ext o d d' hn fun c => (e c).symm.trans ((hp c).trans (e' c))
theorem Rep.some {k : Kn α} {N : List α} {P : (α → Bool) → Prop} (h : Rep le k N P) : ∃ c, P c := by
  obtain ⟨d, W, hW, _, e⟩ := h
  obtain ⟨w, hw⟩ := List.exists_mem_of_ne_nil W hW
  exact ⟨_, (e _).mpr (cyl_self hw)⟩
theorem learn_rep (o : TOrd le) {k : Kn α} {N : List α} {P : (α → Bool) → Prop} (h : Rep le k N P) (f : F α) :
    (∃ k' N', learn le k f = some k' ∧ Rep le k' N' (fun c => P c ∧ ev f c = true) ∧ ∀ x, x ∈ N' ↔ x ∈ N ∨ x ∈ nm f) ∨
    (learn le k f = none ∧ ∀ c, ¬ (P c ∧ ev f c = true)) := by
  obtain ⟨d, W, hW, rfl, e⟩ := h
  have dn : (once [] (nm f)).Nodup := once_nodup List.Pairwise.nil
  have hn : ∀ x, x ∈ once [] (nm f) ↔ x ∈ nm f := fun x => by rw [mem_once]; simp
  have ho : ∀ w, w ∈ outsOf le (kn le N W) f ↔ w ∈ allO (srt le ((kn le N W).und ++ freshN le (kn le N W) (once [] (nm f)))) ∧ restr (kn le N W).und w ∈ (kn le N W).pos ∧ ev f (fun x => decide (x ∈ comm (kn le N W) ++ w)) = true := fun w => by
    unfold outsOf
    rw [List.mem_filter]
    show (w ∈ (allO (srt le ((kn le N W).und ++ freshN le (kn le N W) (once [] (nm f))))).filter (fun o => decide (restr (kn le N W).und o ∈ (kn le N W).pos)) ∧ _) ↔ _
    rw [List.mem_filter, decide_eq_true_iff, and_assoc]
  have cs := cyl_step o d dn hW hn ho
  unfold learn
  by_cases c : (outsOf le (kn le N W) f).length = 0
  · rw [if_pos c]
    refine .inr ⟨rfl, fun x z => ?_⟩
    obtain ⟨v, hv, _⟩ := (cs x).mpr ⟨(e x).mp z.1, z.2⟩
    rw [List.eq_nil_of_length_eq_zero c] at hv
    cases hv
  · rw [if_neg c]
    have hne : outsOf le (kn le N W) f ≠ [] := fun z => c (by rw [z]; rfl)
    refine .inl ⟨_, N ++ freshN le (kn le N W) (once [] (nm f)), rfl, ⟨names_nodup d dn, (outsOf le (kn le N W) f).map (comm (kn le N W) ++ ·), fun z => hne (List.map_eq_nil_iff.mp z), ?_, fun x => ?_⟩, fun x => ?_⟩
    · refine keep_kn o d dn hW (p := fun w => decide (restr (kn le N W).und w ∈ (kn le N W).pos) && ev f fun x => decide (x ∈ comm (kn le N W) ++ w)) hne ?_
      unfold outsOf mention
      simp only
      rw [List.filter_filter]
      refine List.filter_congr fun w _ => ?_
      exact Bool.and_comm _ _
    · show (P x ∧ ev f x = true) ↔ _
      rw [cs x, e x]
    · rw [List.mem_append, fresh_mem, hn]
      constructor
      · exact fun z => z.imp id And.left
      · intro z
        by_cases h : x ∈ N
        · exact .inl h
        · exact .inr ⟨z.resolve_left h, h⟩

/-- fact after fact -/
def learnAll (le : α → α → Bool) (k : Kn α) : List (F α) → Option (Kn α)
  | [] => some k
  | f :: r => match learn le k f with
    | none => none
    | some k' => learnAll le k' r
theorem learnAll_rep (o : TOrd le) : ∀ (fs : List (F α)) {k : Kn α} {N : List α} {P : (α → Bool) → Prop}, Rep le k N P →
    (∃ k' N', learnAll le k fs = some k' ∧ Rep le k' N' (fun c => P c ∧ ∀ f ∈ fs, ev f c = true) ∧ ∀ x, x ∈ N' ↔ x ∈ N ∨ ∃ f ∈ fs, x ∈ nm f) ∨
    (learnAll le k fs = none ∧ ∀ c, ¬ (P c ∧ ∀ f ∈ fs, ev f c = true))
  | [], k, N, P, h => by
    refine .inl ⟨k, N, rfl, ?_, fun x => by simp⟩
    have e : (fun c : α → Bool => P c ∧ ∀ f ∈ ([] : List (F α)), ev f c = true) = P := by
      funext c; simp
    rw [e]; exact h
  | f :: r, k, N, P, h => by
    unfold learnAll
    rcases learn_rep o h f with ⟨k1, N1, e1, h1, n1⟩ | ⟨e1, no⟩
    · rw [e1]
      simp only
      have eP : (fun c : α → Bool => (P c ∧ ev f c = true) ∧ ∀ g ∈ r, ev g c = true) = fun c => P c ∧ ∀ g ∈ f :: r, ev g c = true := by
        funext c
        simp [and_assoc]
      rcases learnAll_rep o r h1 with ⟨k2, N2, e2, h2, n2⟩ | ⟨e2, no⟩
      · refine .inl ⟨k2, N2, e2, by rw [← eP]; exact h2, fun x => ?_⟩
        rw [n2, n1]
        simp [or_assoc]
      · refine .inr ⟨e2, fun c z => no c ?_⟩
        rw [← congrFun eP c] at z
        exact z
    · rw [e1]
      exact .inr ⟨rfl, fun c z => no c ⟨z.1, z.2 f List.mem_cons_self⟩⟩

/-! ### what is due -/
/-- the combinations over all names, from those over the old ones -/
def extend (W : List (List α)) (fresh : List α) : List (List α) := (allO fresh).flatMap fun r => W.map (· ++ r)
def agreeing (W : List (List α)) (fresh : List α) (fs : List (F α)) : List (List α) :=
  (extend W fresh).filter fun row => fs.all fun f => ev f fun x => decide (x ∈ row)
def freshOf (old : List α) (fs : List (F α)) : List α := once [] ((fs.flatMap nm).filter fun x => !decide (x ∈ old))
def due (le : α → α → Bool) (old : List α) (W : List (List α)) (fs : List (F α)) : Option (Kn α) :=
  if (agreeing W (freshOf old fs) fs) = [] then none else some (kn le (old ++ freshOf old fs) (agreeing W (freshOf old fs) fs))
theorem fresh_of {old : List α} {fs : List (F α)} {x : α} : x ∈ freshOf old fs ↔ (∃ f ∈ fs, x ∈ nm f) ∧ x ∉ old := by
  unfold freshOf
  rw [mem_once, List.mem_filter, List.mem_flatMap]
  simp
theorem agree_cyl {old : List α} {W : List (List α)} {fs : List (F α)} (hs : ∀ w ∈ W, ∀ x ∈ w, x ∈ old) (c : α → Bool) :
    Cyl (old ++ freshOf old fs) (agreeing W (freshOf old fs) fs) c ↔ Cyl old W c ∧ ∀ f ∈ fs, ev f c = true := by
  have fx : ∀ f ∈ fs, ∀ x ∈ nm f, x ∈ old ++ freshOf old fs := fun f hf x hx => by
    rw [List.mem_append, fresh_of]
    by_cases h : x ∈ old
    · exact .inl h
    · exact .inr ⟨⟨f, hf, hx⟩, h⟩
  have mem : ∀ row, row ∈ agreeing W (freshOf old fs) fs ↔ (∃ r ∈ allO (freshOf old fs), ∃ w ∈ W, w ++ r = row) ∧ ∀ f ∈ fs, ev f (fun x => decide (x ∈ row)) = true := fun row => by
    unfold agreeing extend
    rw [List.mem_filter, List.mem_flatMap, List.all_eq_true]
    simp only [List.mem_map]
  constructor
  · rintro ⟨row, hrow, q⟩
    obtain ⟨⟨r, hr, w, hw, rfl⟩, hf⟩ := (mem row).mp hrow
    refine ⟨⟨w, hw, fun x hx => ?_⟩, fun f hff => ?_⟩
    · rw [q x (List.mem_append_left _ hx), List.mem_append]
      refine ⟨fun z => z.resolve_right fun k => ?_, .inl⟩
      exact (fresh_of.mp (allO_sub hr k)).2 hx
    · rw [← hf f hff]
      refine ev_local f fun x hx => Bool.eq_iff_iff.mpr ?_
      rw [q x (fx f hff x hx), decide_eq_true_iff]
  · rintro ⟨⟨w, hw, q⟩, hf⟩
    have key : ∀ x ∈ old ++ freshOf old fs, (c x = true ↔ x ∈ w ++ (freshOf old fs).filter c) := fun x hx => by
      rw [List.mem_append, List.mem_filter]
      rcases List.mem_append.mp hx with h | h
      · rw [q x h]
        exact ⟨.inl, fun z => z.resolve_right fun k => (fresh_of.mp k.1).2 h⟩
      · exact ⟨fun z => .inr ⟨h, z⟩, fun z => (z.resolve_left fun k => (fresh_of.mp h).2 (hs w hw x k)).2⟩
    refine ⟨w ++ (freshOf old fs).filter c, (mem _).mpr ⟨⟨_, mem_allO.mpr List.filter_sublist, w, hw, rfl⟩, fun f hff => ?_⟩, key⟩
    rw [← hf f hff]
    refine ev_local f fun x hx => Bool.eq_iff_iff.mpr ?_
    rw [decide_eq_true_iff, key x (fx f hff x hx)]
/-- THE LAW, in plain words -/
theorem law_due (o : TOrd le) {old : List α} {W : List (List α)} {fs gs : List (F α)} (d : old.Nodup) (hW : W ≠ []) (hs : ∀ w ∈ W, ∀ x ∈ w, x ∈ old)
    (hev : ∀ c, (∀ f ∈ gs, ev f c = true) ↔ ∀ f ∈ fs, ev f c = true) (hnm : ∀ x, (∃ f ∈ gs, x ∈ nm f) ↔ ∃ f ∈ fs, x ∈ nm f) :
    learnAll le (kn le old W) gs = due le old W fs := by
  have r0 : Rep le (kn le old W) old (Cyl old W) := ⟨d, W, hW, rfl, fun _ => Iff.rfl⟩
  have dn : (old ++ freshOf old fs).Nodup := List.nodup_append.mpr ⟨d, once_nodup List.Pairwise.nil, fun a ha b hb e => (fresh_of.mp hb).2 (e ▸ ha)⟩
  unfold due
  by_cases c : agreeing W (freshOf old fs) fs = []
  · rw [if_pos c]
    rcases learnAll_rep o gs r0 with ⟨k', N', _, h, _⟩ | ⟨e, _⟩
    · obtain ⟨x, hx⟩ := h.some
      obtain ⟨v, hv, _⟩ := (agree_cyl (fs := fs) hs x).mpr ⟨hx.1, (hev x).mp hx.2⟩
      rw [c] at hv
      cases hv
    · exact e
  · rw [if_neg c]
    have r1 : Rep le (kn le (old ++ freshOf old fs) (agreeing W (freshOf old fs) fs)) (old ++ freshOf old fs) (Cyl (old ++ freshOf old fs) (agreeing W (freshOf old fs) fs)) := ⟨dn, _, c, rfl, fun _ => Iff.rfl⟩
    rcases learnAll_rep o gs r0 with ⟨k', N', e, h, n⟩ | ⟨_, no⟩
    · rw [e]
      refine congrArg some (h.unique o r1 (fun x => ?_) fun x => ?_)
      · rw [n, List.mem_append, fresh_of, hnm]
        by_cases hx : x ∈ old
        · exact ⟨fun _ => .inl hx, fun _ => .inl hx⟩
        · exact ⟨fun z => .inr ⟨z.resolve_left hx, hx⟩, fun z => .inr (z.resolve_left hx).1⟩
      · rw [agree_cyl hs, hev]
    · obtain ⟨x, hx⟩ := r1.some
      have z := (agree_cyl hs x).mp hx
      exact absurd ⟨z.1, (hev x).mpr z.2⟩ (no x)
end
end K49
namespace K49
open PySem L2
/-! ### data: texts, bools, ints, tuples of data -/
inductive T where
  | s (x : PySem.Str)
  | b (c : Bool)
  | i (n : Int)
  | t (ts : List T)
mutual
def At (H : Hp) : T → V → Prop
  | .s x, v => v = V.str x
  | .b c, v => v = V.bl c
  | .i n, v => v = V.int n
  | .t ts, v => ∃ (a : Addr) (vs : List V), v = V.ref a ∧ H a = some (.tup vs) ∧ Ats H ts vs
def Ats (H : Hp) : List T → List V → Prop
  | [], vs => vs = []
  | t :: r, vs => ∃ (v : V) (us : List V), vs = v :: us ∧ At H t v ∧ Ats H r us
end
/-- the tuples stand -/
def TS (H H' : Hp) : Prop := ∀ b xs, H b = some (.tup xs) → H' b = some (.tup xs)
theorem TS.of {H H' : Hp} (h : Same H H') : TS H H' := fun b xs e => h b _ e
theorem TS.refl (H : Hp) : TS H H := fun _ _ e => e
theorem TS.trans {H H1 H2 : Hp} (a : TS H H1) (b : TS H1 H2) : TS H H2 := fun c xs e => b c xs (a c xs e)
theorem TS.put {H : Hp} {a : Addr} {o : HO} (h : ∀ xs, H a ≠ some (.tup xs)) : TS H (upd H a o) := fun b xs e => by
  rw [upd_ne (fun z => h xs (by rw [← z]; exact e))]
  exact e
theorem TS.lst {H : Hp} {a : Addr} {o : HO} {xs : List V} (h : H a = some (.lst xs)) : TS H (upd H a o) := TS.put fun ys e => by
  rw [h] at e; cases e
theorem same_new {H : Hp} {p : Addr} (h : H p = none) (o : HO) : Same H (upd H p o) := fun b u q => by
  rw [upd_ne (ne_of_none q h)]
  exact q
mutual
theorem At.mono {H H' : Hp} (h : TS H H') : ∀ {t : T} {v : V}, At H t v → At H' t v
  | .s _, _, e => e
  | .b _, _, e => e
  | .i _, _, e => e
  | .t ts, v, e => by
    obtain ⟨a, vs, e1, e2, e3⟩ := e
    exact ⟨a, vs, e1, h _ _ e2, Ats.mono h e3⟩
theorem Ats.mono {H H' : Hp} (h : TS H H') : ∀ {ts : List T} {vs : List V}, Ats H ts vs → Ats H' ts vs
  | [], _, e => e
  | t :: r, vs, e => by
    obtain ⟨v, us, e1, e2, e3⟩ := e
    exact ⟨v, us, e1, At.mono h e2, Ats.mono h e3⟩
end
theorem Ats.nil {H : Hp} : Ats H [] [] := rfl
theorem Ats.cons {H : Hp} {t : T} {ts : List T} {v : V} {vs : List V} (h : At H t v) (hs : Ats H ts vs) : Ats H (t :: ts) (v :: vs) := ⟨v, vs, rfl, h, hs⟩
theorem Ats.len {H : Hp} : ∀ {ts : List T} {vs : List V}, Ats H ts vs → vs.length = ts.length
  | [], _, e => by rw [show _ = [] from e] <;> rfl
  | t :: r, vs, e => by
    obtain ⟨v, us, rfl, _, e3⟩ := e
    rw [List.length_cons, List.length_cons, Ats.len e3]
theorem Ats.app {H : Hp} : ∀ {ts rs : List T} {vs us : List V}, Ats H ts vs → Ats H rs us → Ats H (ts ++ rs) (vs ++ us)
  | [], _, _, _, e, h => by rw [show _ = [] from e]; exact h
  | t :: r, _, vs, _, e, h => by
    obtain ⟨v, us, rfl, e2, e3⟩ := e
    exact ⟨v, _, rfl, e2, Ats.app e3 h⟩
theorem Ats.get {H : Hp} : ∀ {ts : List T} {vs : List V} {i : Nat} {v : V}, Ats H ts vs → vs[i]? = some v → ∃ t, ts[i]? = some t ∧ At H t v
  | [], _, _, _, e, q => by rw [show _ = [] from e] at q; simp at q
  | t :: r, vs, 0, v, e, q => by
    obtain ⟨u, us, rfl, e2, e3⟩ := e
    have : u = v := Option.some.inj q
    exact ⟨t, rfl, this ▸ e2⟩
  | t :: r, vs, i + 1, v, e, q => by
    obtain ⟨u, us, rfl, e2, e3⟩ := e
    exact Ats.get (i := i) e3 q
theorem Ats.get' {H : Hp} : ∀ {ts : List T} {vs : List V} {i : Nat} {t : T}, Ats H ts vs → ts[i]? = some t → ∃ v, vs[i]? = some v ∧ At H t v
  | [], _, _, _, e, q => by simp at q
  | t :: r, vs, 0, _, e, q => by
    obtain ⟨u, us, rfl, e2, e3⟩ := e
    have : t = _ := Option.some.inj q
    exact ⟨u, rfl, this ▸ e2⟩
  | t :: r, vs, i + 1, _, e, q => by
    obtain ⟨u, us, rfl, e2, e3⟩ := e
    exact Ats.get' (i := i) e3 q
theorem Ats.strs {H : Hp} : ∀ {xs : List PySem.Str} {vs : List V}, Ats H (xs.map T.s) vs ↔ vs = xs.map V.str
  | [], vs => Iff.rfl
  | x :: r, vs => by
    constructor
    · rintro ⟨v, us, rfl, e2, e3⟩
      rw [show v = V.str x from e2, Ats.strs.mp e3] <;> rfl
    · rintro rfl
      exact ⟨_, _, rfl, rfl, Ats.strs.mpr rfl⟩
theorem Ats.of {H : Hp} {xs : List PySem.Str} : Ats H (xs.map T.s) (xs.map V.str) := Ats.strs.mpr rfl
/-- a list of data -/
def La (H : Hp) (a : Addr) (ts : List T) : Prop := ∃ vs, H a = some (.lst vs) ∧ Ats H ts vs
theorem La.mono {H H' : Hp} {a : Addr} {ts : List T} (h : Same H H') (l : La H a ts) : La H' a ts := by
  obtain ⟨vs, e, q⟩ := l
  exact ⟨vs, h _ _ e, q.mono (.of h)⟩
/-- a tuple of texts -/
abbrev tS (xs : List PySem.Str) : T := .t (xs.map T.s)
theorem at_tS {H : Hp} {xs : List PySem.Str} {v : V} : At H (tS xs) v ↔ ∃ a, v = V.ref a ∧ H a = some (.tup (xs.map V.str)) := by
  constructor
  · rintro ⟨a, vs, e1, e2, e3⟩
    rw [Ats.strs.mp e3] at e2
    exact ⟨a, e1, e2⟩
  · rintro ⟨a, e1, e2⟩
    exact ⟨a, _, e1, e2, Ats.of⟩
theorem take_succ {α : Type} {l : List α} {i : Nat} {x : α} (h : l[i]? = some x) : l.take (i + 1) = l.take i ++ [x] := by
  rw [List.take_add_one, h]; rfl
theorem small_line {n : Nat} (h : n ≤ 100000) : n < sizeLine := Nat.lt_of_le_of_lt h (by decide)

/-! ### comprehensions that make data of data -/
section
variable {γ : Type} {K : PySem.W.Frag} {a : Addr} {vs : List V} {cs : List γ} {enc : γ → T} {g : TG} {tt : TT} {te : TE} {sl : List Nat} {σ : St} {H1 : Hp} {D : Addr} {Qd : Hp → Prop}
/-- one turn: what comes of the item c -/
def Turn1 (enc : γ → T) (g : TG) (tt : TT) (te : TE) (sl : List Nat) (σ : St) (H1 : Hp) (f : γ → Option T) (c : γ) : Prop :=
  ∀ (v : V) (H' : Hp), At H' (enc c) v → Same H1 H' → ∀ (Qy : V → Hp → Prop) (Qn : Hp → Prop), (∀ d y H4, f c = some d → Same H' H4 → At H4 d y → Qy y H4) → (∀ H3, f c = none → Same H' H3 → Qn H3) →
    g v (wipe σ sl) H' fun σ2 H2 => wipe σ2 sl = wipe σ sl ∧ tt σ2 H2 fun b H3 => if b = true then te σ2 H3 Qy else Qn H3
theorem acc_step {H1 H' H4 : Hp} {D : Addr} {ys : List V} {rs : List T} {d : T} {y : V} (hD : H1 D = none) (s1 : Same H1 H') (e : H' D = some (.lst ys)) (q : Ats H' rs ys) (s4 : Same H' H4) (qy : At H4 d y) :
    Same H1 (upd H4 D (.lst (ys ++ [y]))) ∧ Ats (upd H4 D (.lst (ys ++ [y]))) (rs ++ [d]) (ys ++ [y]) := by
  have e4 := s4 _ _ e
  have ts4 : TS H4 (upd H4 D (.lst (ys ++ [y]))) := TS.lst e4
  refine ⟨fun b o h => ?_, (q.mono ((TS.of s4).trans ts4)).app (.cons (qy.mono ts4) .nil)⟩
  rw [upd_ne (ne_of_none h hD)]
  exact s4 _ _ (s1 _ _ h)
theorem Ats.getE {H : Hp} {vs : List V} {i : Nat} {v : V} (h : Ats H (cs.map enc) vs) (q : vs[i]? = some v) : ∃ c, cs[i]? = some c ∧ At H (enc c) v := by
  obtain ⟨t, ht, hat⟩ := h.get q
  rw [List.getElem?_map] at ht
  cases e : cs[i]? with
  | none =>
    rw [e] at ht
    cases ht
  | some c =>
    rw [e] at ht
    have : enc c = t := Option.some.inj ht
    exact ⟨c, rfl, this ▸ hat⟩
theorem turn_step {f : γ → Option T} {i : Nat} {v : V} {c : γ} {H' : Hp} {ys : List V} (hc : cs[i]? = some c) (hat : At H' (enc c) v) (hi : i < 1000) (hD : H1 D = none) (hs : Turn1 enc g tt te sl σ H1 f c) (s1 : Same H1 H') (e : H' D = some (.lst ys)) (q : Ats H' ((cs.take i).filterMap f) ys) (hly : ys.length ≤ i) :
    g v (wipe σ sl) H' fun σ2 H2 => wipe σ2 sl = wipe σ sl ∧ tt σ2 H2 fun b H3 => if b = true then te σ2 H3 fun y H4 => ∃ acc, H4 D = some (.lst acc) ∧ acc.length < sizeLine ∧
        (Same H1 (upd H4 D (.lst (acc ++ [y]))) ∧ ∃ ys, (upd H4 D (.lst (acc ++ [y]))) D = some (.lst ys) ∧ Ats (upd H4 D (.lst (acc ++ [y]))) ((cs.take (i + 1)).filterMap f) ys ∧ ys.length ≤ i + 1)
      else (Same H1 H3 ∧ ∃ ys, H3 D = some (.lst ys) ∧ Ats H3 ((cs.take (i + 1)).filterMap f) ys ∧ ys.length ≤ i + 1) := by
  refine hs v H' hat s1 _ _ (fun d y H4 hf s4 qy => ?_) fun H3 hf s3 => ?_
  · obtain ⟨z1, z2⟩ := acc_step hD s1 e q s4 qy
    refine ⟨ys, s4 _ _ e, small_line (by omega), z1, _, upd_same, ?_, by rw [List.length_append, List.length_singleton]; omega⟩
    rw [take_succ hc, List.filterMap_append]
    simp only [List.filterMap_cons, List.filterMap_nil, hf]
    exact z2
  · refine ⟨s1.trans s3, ys, s3 _ _ e, ?_, by omega⟩
    rw [take_succ hc, List.filterMap_append]
    simp only [List.filterMap_cons, List.filterMap_nil, hf, List.append_nil]
    exact q.mono (.of s3)
theorem lcT (enc : γ → T) (f : γ → Option T) (ha : H1 a = some (.tup vs)) (hA : Ats H1 (cs.map enc) vs) (hz : cs.length ≤ 1000) (hD : H1 D = none) (hs : ∀ c ∈ cs, Turn1 enc g tt te sl σ H1 f c)
    (hd : ∀ H' ys, Same H1 H' → H' D = some (.lst ys) → Ats H' (cs.filterMap f) ys → Qd H') :
    ∃ W : Nat → Nat → Hp → Prop, (∃ m, W 0 m (upd H1 D (.lst []))) ∧ ∀ i m H, W i m H →
      ((Itt K a).stop i H ∧ Qd H) ∨ ((Itt K a).go i H ∧ ∃ Nx : Hp → Prop, (∀ H', Nx H' → ∃ m', m' < m ∧ W (i + 1) m' H') ∧ ∀ x H', (Itt K a).yld i H x H' → g x (wipe σ sl) H' fun σ2 H2 => wipe σ2 sl = wipe σ sl ∧ tt σ2 H2 fun b H3 =>
        if b = true then te σ2 H3 fun y H4 => ∃ acc, H4 D = some (.lst acc) ∧ acc.length < sizeLine ∧ Nx (upd H4 D (.lst (acc ++ [y]))) else Nx H3) := by
  have hl := hA.len
  rw [List.length_map] at hl
  refine lc_tup (xs := vs) (fun i H' => Same H1 H' ∧ ∃ ys, H' D = some (.lst ys) ∧ Ats H' ((cs.take i).filterMap f) ys ∧ ys.length ≤ i) ⟨same_new hD _, [], upd_same, .nil, Nat.zero_le _⟩ (fun i H' _ p => SqT.of (p.1 _ _ ha)) ?_ ?_
  · rintro i v H' hv ⟨s1, ys, e, q, hly⟩
    obtain ⟨c, hc, hat⟩ := hA.getE hv
    have hi : i < vs.length := (List.getElem?_eq_some_iff.mp hv).1
    exact turn_step hc (hat.mono (.of s1)) (by omega) hD (hs c (List.mem_of_getElem? hc)) s1 e q hly
  · rintro H' ⟨s1, ys, e, q, _⟩
    rw [hl, List.take_length] at q
    exact hd H' ys s1 e q
theorem lcL (enc : γ → T) (f : γ → Option T) (ha : H1 a = some (.lst vs)) (hA : Ats H1 (cs.map enc) vs) (hz : cs.length ≤ 1000) (hD : H1 D = none) (hs : ∀ c ∈ cs, Turn1 enc g tt te sl σ H1 f c)
    (hd : ∀ H' ys, Same H1 H' → H' D = some (.lst ys) → Ats H' (cs.filterMap f) ys → Qd H') :
    ∃ W : Nat → Nat → Hp → Prop, (∃ m, W 0 m (upd H1 D (.lst []))) ∧ ∀ i m H, W i m H →
      ((Itl K a).stop i H ∧ Qd H) ∨ ((Itl K a).go i H ∧ ∃ Nx : Hp → Prop, (∀ H', Nx H' → ∃ m', m' < m ∧ W (i + 1) m' H') ∧ ∀ x H', (Itl K a).yld i H x H' → g x (wipe σ sl) H' fun σ2 H2 => wipe σ2 sl = wipe σ sl ∧ tt σ2 H2 fun b H3 =>
        if b = true then te σ2 H3 fun y H4 => ∃ acc, H4 D = some (.lst acc) ∧ acc.length < sizeLine ∧ Nx (upd H4 D (.lst (acc ++ [y]))) else Nx H3) := by
  have hl := hA.len
  rw [List.length_map] at hl
  refine lc_list (xs := vs) (fun i H' => Same H1 H' ∧ ∃ ys, H' D = some (.lst ys) ∧ Ats H' ((cs.take i).filterMap f) ys ∧ ys.length ≤ i) ⟨same_new hD _, [], upd_same, .nil, Nat.zero_le _⟩ (fun i H' _ p => SqL.of (p.1 _ _ ha)) ?_ ?_
  · rintro i v H' hv ⟨s1, ys, e, q, hly⟩
    obtain ⟨c, hc, hat⟩ := hA.getE hv
    have hi : i < vs.length := (List.getElem?_eq_some_iff.mp hv).1
    exact turn_step hc (hat.mono (.of s1)) (by omega) hD (hs c (List.mem_of_getElem? hc)) s1 e q hly
  · rintro H' ⟨s1, ys, e, q, _⟩
    rw [hl, List.take_length] at q
    exact hd H' ys s1 e q
end
/-- e of those with p -/
def fmIf {γ δ : Type} (p : γ → Bool) (e : γ → δ) (c : γ) : Option δ := if p c = true then some (e c) else none
theorem fm_yes {γ δ : Type} {p : γ → Bool} {e : γ → δ} {c : γ} (h : p c = true) : fmIf p e c = some (e c) := if_pos h
theorem fm_no {γ δ : Type} {p : γ → Bool} {e : γ → δ} {c : γ} (h : p c = false) : fmIf p e c = none := if_neg (by rw [h]; decide)
theorem fm_if {γ δ : Type} (p : γ → Bool) (e : γ → δ) : ∀ l : List γ, l.filterMap (fmIf p e) = (l.filter p).map e
  | [] => rfl
  | c :: r => by
    have ih := fm_if p e r
    cases h : p c with
    | true => rw [List.filterMap_cons, fm_yes h, List.filter_cons_of_pos h, List.map_cons, ih]
    | false => rw [List.filterMap_cons, fm_no h, List.filter_cons_of_neg (by rw [h]; decide), ih]
theorem fm_map {γ δ : Type} (e : γ → δ) : ∀ l : List γ, l.filterMap (fun c => some (e c)) = l.map e
  | [] => rfl
  | c :: r => by rw [List.filterMap_cons, List.map_cons, fm_map e r]
/-! ### the text -/
def top (i : Nat) : Stmt := PySem.Challenge.pw_indoubt_k49_whole_facts_in_any_order.main.body.getD i (.Pass ⟨0, 0, 0, 0⟩)
end K49
namespace K49
open PySem PySem.Spec PyProof.Rows L2
/-! ### a comprehension of any kind: what its new object is (h0) and what a turn does with it (tl) are left open -/
/-- one turn's last part, run: at the new object D, in the block's frame -/
abbrev Elm := Addr → Env → (Shared → Prop) → Shared → Prop
/-- .. and read -/
abbrev TlR := Addr → L2.St → Hp → (Hp → Prop) → Prop
section
variable {X : Cx}
def tGc (h0 : Addr → HO) (wi : TI) (g : TG) (tt : TT) (tl : TlR) (vs : List Nat) : TE := fun σ H Q => wi σ H fun J H1 => ∀ D, H1 D = none →
  ∃ W : Nat → Nat → Hp → Prop, (∃ m, W 0 m (upd H1 D (h0 D))) ∧ ∀ i m H, W i m H → (J.stop i H ∧ Q (.ref D) H) ∨
    (J.go i H ∧ ∃ Nx : Hp → Prop, (∀ H', Nx H' → ∃ m', m' < m ∧ W (i + 1) m' H') ∧ ∀ x H', J.yld i H x H' →
      g x (wipe σ vs) H' fun σ2 H2 => wipe σ2 vs = wipe σ vs ∧ tt σ2 H2 fun b H3 => if b = true then tl D σ2 H3 Nx else Nx H3)
/-- what the loop of such a comprehension wants, where nothing raises -/
def LoopW (X : Cx) (ce : Env) (tg : Expr) (ifs : List Expr) (it D : Addr) (EL : Elm) (R : Result → Shared → Prop) (J : Nat → Shared → Prop) : Prop :=
  ∀ n s, J n s → wpAny (model X.prog X.w) X.A (pyNext (.ref it)) (fun r s1 => match r with
    | none => R (.ok .next) s1
    | some v => wpAny (model X.prog X.w) X.A (letOwnedTupleGo tg (.ref it) v) (fun _ s2 => wpAny (model X.prog X.w) X.A (assign tg ce v) (fun _ s3 =>
        wpAny (model X.prog X.w) X.A (forIn ifs true fun c r => if r = true then do let ok ← isTrue c ce (eval c ce); pure (ForInStep.yield ok) else pure (ForInStep.yield r)) (fun ok s4 =>
          if ok = true then EL D ce (fun s5 => ∃ m, m < n ∧ J m s5) s4 else ∃ m, m < n ∧ J m s4) (fun _ _ => False) s3) (fun _ _ => False) s2) (fun _ _ => False) s1) (fun _ _ => False) s
theorem gc_core {pins : List (Addr × Obj)} {s : Shared} {σ : L2.St} {H : Hp} {Q : VK} {CE tg iter : Expr} {ifs : List Expr} {scope : Scope} {own : List (PySem.Str × Nat)} {pos' : Pos} {wi : TI} {g : TG} {tt : TT} {tl : TlR} {use : Option (Value → Sem Unit)} {Qf : Value → Shared → Prop}
    {mk : Sem Value} {o0 : Obj} {h0 : Addr → HO} {EL : Elm}
    (hcl : clausesOf CE = [⟨tg, iter, ifs, 0⟩])
    (hmk : ∀ (s : Shared) (Q : Value → Shared → Prop), Q (.ref s.heap.objs.size) { s with heap := s.heap.push o0 } → wpAny (model X.prog X.w) X.A mk Q X.xe s)
    (hnew : ∀ (H : Hp) (s : Shared), Inv X pins σ H s → ObjOk X.prog X.w (upd H s.heap.objs.size (h0 s.heap.objs.size)) (s.heap.push o0) s.heap.objs.size (h0 s.heap.objs.size))
    (hloop : ∀ (ce : Env) (it D : Addr) (R : Result → Shared → Prop) (J : Nat → Shared → Prop), LoopW X ce tg ifs it D EL R J → ∀ n s, J n s → codeAny (model X.prog X.w) X.A (.compLoop CE 0 (.ref it) (.ref D) ce) R s)
    (hstart : ∀ (ce : Env) (it D : Addr) (R : Result → Shared → Prop) (s : Shared), codeAny (model X.prog X.w) X.A (.compLoop CE 0 (.ref it) (.ref D) ce) R s →
      wpAny (model X.prog X.w) X.A (pyIter (.ref it)) (fun it' s' => codeAny (model X.prog X.w) X.A (.compLoop CE 0 it' (.ref D) ce) R s') (notedBy (model X.prog X.w) X.A ce fun x s' => R (.error x) s') s →
      codeAny (model X.prog X.w) X.A (.compStart CE 0 (.ref it) (.ref D) ce) R s)
    (hc : X.calm = true) (hN : X.N.Nodup) (I : Inv X pins σ H s) (hi : PI X tg iter wi) (ok : BlkOk X.N X.env.scope scope own)
    (hg : ∀ (s : Shared) (H : Hp) (C : Addr) (cl : List (PySem.Str × Addr)) (fp : List Addr), PG (X.blk s H scope (compEnvC scope cl C X.env) fp) tg g)
    (ht : ∀ (s : Shared) (H : Hp) (C : Addr) (cl : List (PySem.Str × Addr)) (fp : List Addr), PTs (X.blk s H scope (compEnvC scope cl C X.env) fp) ifs tt)
    (he : ∀ (s : Shared) (H : Hp) (C : Addr) (cl : List (PySem.Str × Addr)) (fp : List Addr) (D : Addr) (pn : List (Addr × Obj)) (σ' : L2.St) (H' : Hp) (s' : Shared) (Nx : Hp → Prop), Inv (X.blk s H scope (compEnvC scope cl C X.env) fp) pn σ' H' s' → tl D σ' H' Nx →
      EL D (compEnvC scope cl C X.env) (fun s'' => ∃ H'', Inv (X.blk s H scope (compEnvC scope cl C X.env) fp) pn σ' H'' s'' ∧ Nx H'') s')
    (hmono : ∀ (D : Addr) (ce : Env) (K K' : Shared → Prop) (s : Shared), (∀ s, K s → K' s) → EL D ce K s → EL D ce K' s)
    (hs : ∀ x, foldedSetIterable iter X.env x = pure x) (h : tGc h0 wi g tt tl (own.map (·.2)) σ H Q)
    (hRR : ∀ D C s' m H', Inv X pins σ H' s' → Q (.ref D) H' → s'.heap.Ns C m → FpOk X pins H' C → compPost (model X.prog X.w) X.A X.xe use Qf (.ref D) C (.ok .next) s') :
    wpAny (model X.prog X.w) X.A (comprehension CE scope X.env pos' mk false (eval iter X.env) use) Qf X.xe s := by
  have hfree : ∀ y ∈ scope.names, y.2 = .free → ∃ c, X.env.cells.lookup y.1 = some c := fun y hy e => (ok.free y hy e).elim (fun k => I.ok.has _ (.inl k)) fun k => I.ok.has _ (.inr k)
  refine wpAny_comprehension_free (use := use) hcl hs (closure_ok hfree) ok.kind (fun y hy e => by rw [ok.uniq y hy, e])
    (thn (hi.run pins s σ H _ I h) fun xv sA hx => thn hx fun itv sB hB => ?_)
  obtain ⟨it, fp, tn, J, HB, e, IB, T, stB, fB, q⟩ := hB
  subst e
  refine hmk sB _ (newEnv_comp ?_)
  have hnewB := hnew HB sB IB
  generalize hD : sB.heap.objs.size = D at hnewB ⊢
  have hDn : HB D = none := IB.hok.fresh (Nat.le_of_eq hD)
  obtain ⟨W, ⟨m0, w0⟩, turn⟩ := q D hDn
  generalize hsC : ({ sB with heap := sB.heap.push o0 } : Shared) = sC
  have hpC : sC.heap = sB.heap.push o0 := by rw [← hsC]
  have IC : Inv X pins σ (upd HB D (h0 D)) sC := by
    rw [← hsC]
    exact IB.laid (t' := sB.toks) (fun b o e => Heap.get?_push_of_some _ e) (Nat.le_of_eq hD) hnewB
  have old : ∀ b ∈ fp, b < sB.heap.objs.size := fun b hb => let ⟨_, e, _⟩ := T.obj _ _ stB b hb; Heap.lt_size e
  have fC : ∀ b ∈ fp, FpOk X pins (upd HB D (h0 D)) b ∧ b < sC.heap.objs.size := fun b hb => by
    have hlt := old b hb
    have hne : b ≠ D := by rw [← hD]; exact Nat.ne_of_lt hlt
    exact ⟨⟨by rw [upd_ne hne]; exact (fB b hb).1, (fB b hb).2⟩, by rw [hpC, Heap.size_push]; exact Nat.lt_succ_of_lt hlt⟩
  have stC : tn 0 sC.heap := T.keep _ _ _ stB fun b _ o e => by rw [hpC]; exact Heap.get?_push_of_some _ e
  generalize hHC : upd HB D (h0 D) = HC at IC w0 fC
  have ID := block_start IC ok hN fC
  generalize hcl' : cellsFrom (sC.heap.objs.size + 1) scope.names (cloFrom X.env.cells scope.names []) = cl at ID
  have pg := hg sC HC sC.heap.objs.size cl fp
  have pt := ht sC HC sC.heap.objs.size cl fp
  have pe := he sC HC sC.heap.objs.size cl fp
  show codeAny _ _ (.compStart CE 0 (.ref it) (.ref D) (compEnvC scope cl sC.heap.objs.size X.env)) (compPost (model X.prog X.w) X.A X.xe use Qf (.ref D) sC.heap.objs.size) { sC with heap := pushCells (sC.heap.push { cls := .type "dict", data := .dict #[] }) scope.names }
  generalize hce : compEnvC scope cl sC.heap.objs.size X.env = ce at ID pg pt pe ⊢
  have cL : ce.locals = sC.heap.objs.size := by subst hce; rfl
  generalize hsD : ({ sC with heap := pushCells (sC.heap.push { cls := .type "dict", data := .dict #[] }) scope.names } : Shared) = sD at ID ⊢
  have stD : tn 0 sD.heap := T.keep _ _ _ stC fun b _ o e => by rw [← hsD]; exact pushCells_keeps _ _ _ _ (Heap.get?_push_of_some _ e)
  let Z : Cx := X.blk sC HC scope ce fp
  have stat : ∀ {σ' : L2.St} {H' : Hp} {s' : Shared}, Inv Z [] σ' H' s' → (∀ b ∈ fp, H' b = none) → ∀ b ∈ fp, FpOk Z [] H' b := fun {σ' H' s'} I' hn b hb =>
    ⟨hn b hb, (I'.ok.exf b hb).1, I'.ok.exfs b hb, .inl hb, fun x c e => (I'.ok.exf b hb).2 x c e, fun p hp => absurd (show p ∈ ([] : List (Addr × Obj)) ++ [] from hp) (by simp)⟩
  have loop : codeAny (model X.prog X.w) X.A (.compLoop CE 0 (.ref it) (.ref D) ce) (compPost (model X.prog X.w) X.A X.xe use Qf (.ref D) sC.heap.objs.size) sD := by
    refine hloop ce it D _ (fun n s' => ∃ i H', Inv Z [] (wipe σ (own.map (·.2))) H' s' ∧ tn i s'.heap ∧ (∀ b ∈ fp, H' b = none) ∧ W i n H') ?_ m0 sD ⟨0, HC, ID, stD, fun b hb => (fC b hb).1.1, w0⟩
    rintro n sE ⟨i, HE, IE, stE, nE, wE⟩
    rcases turn i n HE wE with ⟨stop, qq⟩ | ⟨go, Nx, hNx, step⟩
    · refine thnF (T.done Z rfl rfl rfl hc i [] sE _ HE (fun _ _ => False) IE (stat IE nE) stE stop) fun r sF ⟨hr, IF⟩ => ?_
      subst hr
      have back : Inv X pins σ HE sF := IC.call' (ch := fp) IF.os IF.base IF.hok IF.bare fun b hb => ⟨(fC b hb).1.2.2.2.1, (fC b hb).1.2.1, (fC b hb).1.2.2.2.2.1, (fC b hb).1.2.2.2.2.2⟩
      obtain ⟨m, hn, _⟩ := IF.loc
      have hn : sF.heap.Ns ce.locals m := hn
      have nC : HE ce.locals = none := IF.free
      rw [cL] at hn nC
      exact hRR D sC.heap.objs.size sF m HE back qq hn (IC.fpOk (Nat.le_refl _) nC)
    · refine thnF (T.item Z rfl rfl rfl hc i [] sE _ HE (fun _ _ => False) IE (stat IE nE) stE go) fun r sF ⟨u, hr, hF⟩ => ?_
      subst hr
      refine thnF hF fun _ sG ⟨x, HG, IG, rG, yG, stG, nG⟩ => ?_
      have IG' := IG.pinned (stat IG nG) (T.obj _ _ stG)
      refine thnF (pg.run _ sG _ HG x u _ IG' rG (step x HG yG)) fun _ sH ⟨σH, HH, IH, hwH, qH⟩ => ?_
      refine thnF (pt.run _ sH σH HH _ IH qH) fun b sI ⟨HI, II, qI⟩ => ?_
      have fin : ∀ {s' : Shared} {H' : Hp}, Inv Z ([] ++ pinsAt fp sG.heap) σH H' s' → Nx H' → ∃ m, m < n ∧ ∃ i H', Inv Z [] (wipe σ (own.map (·.2))) H' s' ∧ tn i s'.heap ∧ (∀ b ∈ fp, H' b = none) ∧ W i m H' := fun {s' H'} I' nx => by
        obtain ⟨m', hm, w'⟩ := hNx H' nx
        have pn : ∀ b ∈ fp, ∀ o, sG.heap.get? b = some o → s'.heap.get? b = some o ∧ H' b = none := fun b hb o e =>
          let z := I'.pin (b, o) (List.mem_append_right _ (List.mem_append_right _ (mem_pinsAt hb e)))
          ⟨z.1, z.2.1⟩
        refine ⟨m', hm, i + 1, H', (I'.unpinned (pins := [])).weak (by rw [← hwH, wipe_length]) (fun j v e => ?_), T.keep _ _ _ stG fun b hb o e => (pn b hb o e).1, fun b hb => ?_, w'⟩
        · rw [← hwH] at e
          exact (wipe_some e).1
        · obtain ⟨o, e, _⟩ := T.obj _ _ stG b hb
          exact (pn b hb o e).2
      cases b with
      | false =>
        simp only [Bool.false_eq_true, if_false] at qI ⊢
        exact fin II qI
      | true =>
        simp only [if_true] at qI ⊢
        exact hmono D ce _ _ _ (fun s' ⟨H', I', nx⟩ => fin I' nx) (pe D _ σH HI sI Nx II qI)
  exact hstart ce it D _ sD loop (T.self X.A 0 _ _ _ stD loop)
/-- over a tuple that stays -/
theorem gc_tup {K : PySem.W.Frag} {a : Addr} {xs : List V} {g : TG} {tt : TT} {tl : TlR} {vs : List Nat} {σ : L2.St} {H1 : Hp} {D : Addr} {Qd : Hp → Prop} {h0 : Addr → HO} (Pv : Nat → Hp → Prop) (hb : Pv 0 (upd H1 D (h0 D))) (hl : ∀ i H, i ≤ xs.length → Pv i H → SqT K H a xs)
    (hs : ∀ i x H, xs[i]? = some x → Pv i H → g x (wipe σ vs) H fun σ2 H2 => wipe σ2 vs = wipe σ vs ∧ tt σ2 H2 fun b H3 => if b = true then tl D σ2 H3 (Pv (i + 1)) else Pv (i + 1) H3) (hd : ∀ H, Pv xs.length H → Qd H) :
    ∃ W : Nat → Nat → Hp → Prop, (∃ m, W 0 m (upd H1 D (h0 D))) ∧ ∀ i m H, W i m H → ((Itt K a).stop i H ∧ Qd H) ∨
      ((Itt K a).go i H ∧ ∃ Nx : Hp → Prop, (∀ H', Nx H' → ∃ m', m' < m ∧ W (i + 1) m' H') ∧ ∀ x H', (Itt K a).yld i H x H' → g x (wipe σ vs) H' fun σ2 H2 => wipe σ2 vs = wipe σ vs ∧ tt σ2 H2 fun b H3 => if b = true then tl D σ2 H3 Nx else Nx H3) := by
  refine ⟨fun i m H => m = xs.length - i ∧ i ≤ xs.length ∧ Pv i H, ⟨xs.length, rfl, Nat.zero_le _, hb⟩, ?_⟩
  rintro i m H ⟨rfl, hi, p⟩
  have q := hl i H hi p
  rcases Nat.lt_or_ge i xs.length with hlt | hge
  · refine .inr ⟨⟨xs, xs[i], q, List.getElem?_eq_getElem hlt⟩, Pv (i + 1), fun H' p' => ⟨xs.length - (i + 1), by omega, rfl, hlt, p'⟩, ?_⟩
    rintro x H' ⟨rfl, y⟩
    exact hs i x _ (y xs q) p
  · obtain rfl : i = xs.length := by omega
    exact .inl ⟨⟨xs, q, Nat.le_refl _⟩, hd H p⟩
end
end K49
namespace K49
open PySem PySem.Spec PyProof.Rows L2
/-! ### {k: v for ..}, the keys tuples of texts -/
def txK (xs : List PySem.Str) : List L2.Key := xs.map Sum.inr
theorem txK_inj {xs ys : List PySem.Str} (h : txK xs = txK ys) : xs = ys :=
  List.map_inj_right (fun _ _ e => Sum.inr.inj e) |>.mp h
theorem txK_kV (xs : List PySem.Str) : (txK xs).map kV = xs.map V.str := by
  unfold txK
  rw [List.map_map]
  rfl
def tlDT (tk tv : TE) : TlR := fun D σ H Nx => tk σ H fun y H1 => tv σ H1 fun z H2 => ∃ (kvs : List (List L2.Key × V)) (k : List L2.Key) (b : Addr), y = V.ref b ∧ H2 b = some (.tup (k.map kV)) ∧ H2 D = some (.dT kvs) ∧ kvs.length < sizeLine ∧ Nx (upd H2 D (.dT (putK kvs k z)))
section
variable {X : Cx}
def elD (X : Cx) (kx vx : Expr) : Elm := fun D ce K s => wpAny (model X.prog X.w) X.A (eval kx ce) (fun kv s1 => wpAny (model X.prog X.w) X.A (eval vx ce) (fun vv s2 =>
  wpAny (model X.prog X.w) X.A (dictSet D kv vv) (fun _ s3 => K s3) (fun _ _ => False) s2) (fun _ _ => False) s1) (fun _ _ => False) s
theorem dictSet_T {pins : List (Addr × Obj)} {σ : L2.St} {H : Hp} {s : Shared} {E : Value → Shared → Prop} {D b : Addr} {kvs : List (List L2.Key × V)} {k : List L2.Key} {v : V} {r : Value} {Q : Unit → Shared → Prop} (hu : X.A.units < cLine) (I : Inv X pins σ H s)
    (hD : H D = some (.dT kvs)) (hb : H b = some (.tup (k.map kV))) (hz : kvs.length < sizeLine) (rv : RelV v r) (h : ∀ s', Inv X pins σ (upd H D (.dT (putK kvs k v))) s' → Q () s') :
    wpAny (model X.prog X.w) X.A (dictSet D (.ref b) r) Q E s := by
  obtain ⟨z, hd, xs, rel, dd⟩ := dt_of I.hok hD
  have hx : xs.length ≤ sizeLine := by rw [← Paired.length rel]; exact z
  have hl : (putK kvs k v).length ≤ sizeLine := by have := length_putK kvs k v; omega
  refine wpAny_dictSet_heap (hsz := hx) (knd := tupleKind (mixKind X.prog X.w)) hu (key_of I.hok hb) dd fun h' dd' hs => h _ ?_
  obtain ⟨q, es, ep, hq, h2, h3, h4, _, h5⟩ := dd'
  refine d_write I (by rw [hD]; exact True.intro) hs ⟨q, hq⟩ ⟨hl, hd, _, (rel.put k hb rv).keeps fun c ys ec => ?_, q, es, ep, hq, h2, h3, h4, h5⟩
  rw [upd_ne (ne_of ec hD (fun z => nomatch z))]
  exact ec
theorem pe_dcT {kx vx tg iter : Expr} {ifs : List Expr} {scope : Scope} {own : List (PySem.Str × Nat)} {pos : Pos} {wi : TI} {g : TG} {tt : TT} {tk tv : TE} (hu : X.A.units < cLine) (hc : X.calm = true) (hN : X.N.Nodup) (hi : PI X tg iter wi) (ok : BlkOk X.N X.env.scope scope own)
    (hg : ∀ (s : Shared) (H : Hp) (C : Addr) (cl : List (PySem.Str × Addr)) (fp : List Addr), PG (X.blk s H scope (compEnvC scope cl C X.env) fp) tg g)
    (ht : ∀ (s : Shared) (H : Hp) (C : Addr) (cl : List (PySem.Str × Addr)) (fp : List Addr), PTs (X.blk s H scope (compEnvC scope cl C X.env) fp) ifs tt)
    (hk : ∀ (s : Shared) (H : Hp) (C : Addr) (cl : List (PySem.Str × Addr)) (fp : List Addr), PE (X.blk s H scope (compEnvC scope cl C X.env) fp) kx tk)
    (he : ∀ (s : Shared) (H : Hp) (C : Addr) (cl : List (PySem.Str × Addr)) (fp : List Addr), PE (X.blk s H scope (compEnvC scope cl C X.env) fp) vx tv) (hs : ∀ x, foldedSetIterable iter X.env x = pure x := by intro _; rfl) :
    PE X (.DictComp kx vx [⟨tg, iter, ifs, 0⟩] scope pos) (tGc (fun _ => .dT []) wi g tt (tlDT tk tv) (own.map (·.2))) := by
  refine ⟨fun pins s σ H Q I h => ?_⟩
  rw [arm_eval_DictComp]
  refine gc_core (EL := elD X kx vx) (o0 := { cls := .type "dict", data := .dict #[] }) (h0 := fun _ => .dT []) rfl (fun s Q q => wpAny_newObj_type q) (fun H s I => dt_empty s.heap I.big)
    (fun ce it D R J lw n s hJ => compLoop_anyD J (fun n s hJ => thnF (lw n s hJ) fun r s1 h1 => ?_) n hJ) (fun ce it D R s a b => codeAny_compStart_dict a b)
    hc hN I hi ok hg ht (fun s H C cl fp D pn σ' H' s' Nx I' q => ?_) (fun D ce K K' s k q => ?_) hs h fun D C s' m H' I' q hn f => ⟨m, hn, fun h'' sb => ?_⟩
  · cases r with
    | none => exact h1
    | some v =>
      refine thnF h1 fun _ s2 h2 => thnF h2 fun _ s3 h3 => thnF h3 fun ok s4 h4 => ?_
      cases ok with
      | false => exact h4
      | true => exact thnF h4 fun kv s5 h5 => thnF h5 fun vv s6 h6 => thnF h6 fun _ s7 h7 => h7
  · refine thnF ((hk s H C cl fp).run pn s' σ' H' _ I' q) fun kv s1 ⟨y, H1, I1, r1, q1⟩ => ?_
    refine thnF ((he s H C cl fp).run pn s1 σ' H1 _ I1 q1) fun vv s2 ⟨z, H2, I2, r2, kvs, k, b, ey, hb, hD, hz, nx⟩ => ?_
    subst ey
    obtain rfl : kv = Value.ref b := r1
    exact dictSet_T (X := X.blk s H scope (compEnvC scope cl C X.env) fp) hu I2 hD hb hz r2 fun s3 I3 => ⟨_, I3, nx⟩
  · exact thnF q fun kv s1 h1 => thnF h1 fun vv s2 h2 => thnF h2 fun _ s3 h3 => k s3 h3
  · obtain ⟨f0, f1, f2, f3, f4, f5⟩ := f
    exact ⟨.ref D, H', I'.turned (t' := s'.toks) (fun b o hb e => (sb.2 b hb).trans e) f0 f1 f3 f4 f5, rfl, q⟩
end

/-! ### {e for ..}, the members new texts -/
def SetS (P : Program) (w : World) (a : Addr) (ks : List PySem.Str) : HO := .ext fun h => ∃ (es : Array (Int × Value)) (ep : Nat) (t : SetTable),
  h.get? a = some (Froz.sObj "set" (es, ep, t)) ∧ Froz.TxOk P w (es, ep, t) ks ∧ Ris t.place.toList ∧ (w.params.followText "set-order" = true ∨ t.led = true)
theorem setS_ok {P : Program} {w : World} {H : Hp} {h : Heap} {a : Addr} {ks : List PySem.Str} (R : ∃ (es : Array (Int × Value)) (ep : Nat) (t : SetTable),
    h.get? a = some (Froz.sObj "set" (es, ep, t)) ∧ Froz.TxOk P w (es, ep, t) ks ∧ Ris t.place.toList ∧ (w.params.followText "set-order" = true ∨ t.led = true)) : ObjOk P w H h a (SetS P w a ks) := by
  have ⟨es, ep, t, ho, _⟩ := R
  refine ⟨R, ⟨_, ho⟩, fun h1 h2 p k => ?_⟩
  obtain ⟨es, ep, t, ho, r⟩ := p
  exact ⟨es, ep, t, k _ ho, r⟩
theorem addTx_ris {w : World} (h : Int) (v : Value) (es : Array (Int × Value)) (ep : Nat) (t : SetTable) (r : Ris t.place.toList) (l : w.params.followText "set-order" = true ∨ t.led = true) :
    Ris (Froz.addTx h v (es, ep, t)).2.2.place.toList ∧ (w.params.followText "set-order" = true ∨ (Froz.addTx h v (es, ep, t)).2.2.led = true) := by
  have r1 := layNew_ris t es h v r
  have l1 := layNew_led t es h v
  unfold Froz.addTx
  dsimp only
  generalize layNew t es h v = L at r1 l1 ⊢
  obtain ⟨es1, t1, wd, gv⟩ := L
  dsimp only at r1 l1 ⊢
  have key : ∀ t2 : SetTable, Ris t2.place.toList → (w.params.followText "set-order" = true ∨ t2.led = true) →
      Ris (Froz.tailTx ep es1 t2 wd).2.2.place.toList ∧ (w.params.followText "set-order" = true ∨ (Froz.tailTx ep es1 t2 wd).2.2.led = true) := fun t2 r2 l2 => by
    unfold Froz.tailTx
    by_cases c : (!wd && t2.tooFull) = true
    · rw [if_pos c]
      exact ⟨relayAll_ris t2 es1 _, l2.imp id fun z => by show (relayAll t2 es1 _).2.1.led = true; rw [relayAll_led]; exact z⟩
    · rw [if_neg c]
      exact ⟨r2, l2⟩
  refine key _ ?_ ?_
  · split
    · exact r1
    · exact r1
  · refine l.imp id fun z => ?_
    split
    · show t1.led = true
      rw [l1]; exact z
    · rw [l1]; exact z
def tlST (P : Program) (w : World) (te : TE) : TlR := fun D σ H Nx => te σ H fun y H1 => ∃ (ks : List PySem.Str) (k : PySem.Str), y = V.str k ∧ H1 D = some (SetS P w D ks) ∧ k ∉ ks ∧ ks.length + 1 < 1000 ∧ Nx (upd H1 D (SetS P w D (k :: ks)))
section
variable {X : Cx}
theorem scan1000 {n : Nat} (h : n < 1000) : n < scanBound := Nat.lt_of_lt_of_le h (by decide)
theorem setAdd_S {pins : List (Addr × Obj)} {σ : L2.St} {H : Hp} {s : Shared} {E : Value → Shared → Prop} {D : Addr} {ks : List PySem.Str} {k : PySem.Str} {tk : Tok} {Q : Value → Shared → Prop} (I : Inv X pins σ H s)
    (hD : H D = some (SetS X.prog X.w D ks)) (hk : k ∉ ks) (hz : ks.length + 1 < 1000) (h : ∀ s', Inv X pins σ (upd H D (SetS X.prog X.w D (k :: ks))) s' → Q .none s') :
    wpAny (model X.prog X.w) X.A (call (.builtin "set.add") [.ref D, .str k tk]) Q E s := by
  obtain ⟨es, ep, t, ho, F, hr, hl⟩ := (I.hok D _ hD).1
  refine wpAny_call_entry PySem.F.slot_set_add ⟨_, ho, rfl⟩ PySem.F.entry_set_add ?_ (PySem.F.args_set_add_2 _ _)
  unfold Builtin.«set.add» Builtin.Frozenset.oneOther
  simp only [List.isEmpty_nil, bind_assoc]
  unfold Builtin.Frozenset.addrOf setAdd
  refine wpAny_bind (wpAny_pure ?_)
  try dsimp only
  refine wpAny_bind (wpAny_pure ?_)
  try dsimp only
  refine wpAny_bind ?_
  refine wpAny_holding ?_
  refine wpAny_bind ((strKind X.prog X.w).pyHash (Froz.is_str k tk) ?_)
  refine Froz.add_x (s := { s with toks := s.toks + 1 }) ho F hk (scan1000 hz) ?_
  show wpAny _ _ (ret Value.none) _ _ _
  refine wpAny_pure ⟨_, rfl, h _ ?_⟩
  have hF := Froz.add_ok (k := k) tk F
  have hR := addTx_ris (w := X.w) (hashStr X.w k) (.str k tk) es ep t hr hl
  have ho' : (s.heap.update D (fun _ => Froz.sObj "set" (Froz.addTx (hashStr X.w k) (.str k tk) (es, ep, t)))).get? D = some (Froz.sObj "set" (Froz.addTx (hashStr X.w k) (.str k tk) (es, ep, t))) := Froz.get_upd _ ho rfl
  have sb := Heap.SameBut.update s.heap D (fun _ => Froz.sObj "set" (Froz.addTx (hashStr X.w k) (.str k tk) (es, ep, t)))
  exact I.write (e := D) (t' := s.toks + 1) (by rw [hD]; trivial) (.inl rfl) (fun b u hb hu => (sb.2 b hb).trans hu) ⟨_, ho'⟩ (setS_ok ⟨_, _, _, ho', hF, hR⟩)
def elS (X : Cx) (elt : Expr) : Elm := fun D ce K s => wpAny (model X.prog X.w) X.A (eval elt ce) (fun x s1 => wpAny (model X.prog X.w) X.A (call (.builtin "set.add") [.ref D, x]) (fun _ s2 => K s2) (fun _ _ => False) s1) (fun _ _ => False) s
theorem pe_scT {elt tg iter : Expr} {ifs : List Expr} {scope : Scope} {own : List (PySem.Str × Nat)} {pos : Pos} {wi : TI} {g : TG} {tt : TT} {te : TE} (hc : X.calm = true) (hN : X.N.Nodup) (hi : PI X tg iter wi) (ok : BlkOk X.N X.env.scope scope own)
    (hg : ∀ (s : Shared) (H : Hp) (C : Addr) (cl : List (PySem.Str × Addr)) (fp : List Addr), PG (X.blk s H scope (compEnvC scope cl C X.env) fp) tg g)
    (ht : ∀ (s : Shared) (H : Hp) (C : Addr) (cl : List (PySem.Str × Addr)) (fp : List Addr), PTs (X.blk s H scope (compEnvC scope cl C X.env) fp) ifs tt)
    (he : ∀ (s : Shared) (H : Hp) (C : Addr) (cl : List (PySem.Str × Addr)) (fp : List Addr), PE (X.blk s H scope (compEnvC scope cl C X.env) fp) elt te) (hs : ∀ x, foldedSetIterable iter X.env x = pure x := by intro _; rfl) :
    PE X (.SetComp elt [⟨tg, iter, ifs, 0⟩] scope pos) (tGc (fun D => SetS X.prog X.w D []) wi g tt (tlST X.prog X.w te) (own.map (·.2))) := by
  refine ⟨fun pins s σ H Q I h => ?_⟩
  rw [PpSet.eval_SetComp]
  refine gc_core (EL := elS X elt) (o0 := { cls := .type "set", dict := none, data := .set #[] 0 (.fresh 0 0 (!X.w.params.followText "set-order")) }) (h0 := fun D => SetS X.prog X.w D []) rfl (fun s Q q => PpSet.newSet_ok q) (fun H s I => ?_)
    (fun ce it D R J lw n s hJ => PpSet.compLoopS_any J (fun n s hJ => thnF (lw n s hJ) fun r s1 h1 => ?_) n hJ) (fun ce it D R s a b => PpSet.codeAny_compStart_set a b)
    hc hN I hi ok hg ht (fun s H C cl fp D pn σ' H' s' Nx I' q => ?_) (fun D ce K K' s k q => ?_) hs h fun D C s' m H' I' q hn f => ⟨m, hn, fun h'' sb => ?_⟩
  · refine setS_ok ⟨#[], 0, _, Heap.get?_push_size _ rfl, Froz.TxOk.nil rfl, List.Pairwise.nil, ?_⟩
    show _ ∨ (!X.w.params.followText "set-order") = true
    cases X.w.params.followText "set-order"
    · exact .inr rfl
    · exact .inl rfl
  · cases r with
    | none => exact h1
    | some v =>
      refine thnF h1 fun _ s2 h2 => thnF h2 fun _ s3 h3 => thnF h3 fun ok s4 h4 => ?_
      cases ok with
      | false => exact h4
      | true => exact thnF h4 fun kv s5 h5 => thnF h5 fun vv s6 h6 => h6
  · refine thnF ((he s H C cl fp).run pn s' σ' H' _ I' q) fun kv s1 ⟨y, H1, I1, r1, ks, k, ey, hD, hk, hz, nx⟩ => ?_
    subst ey
    obtain ⟨tk, rfl⟩ := r1
    exact setAdd_S (X := X.blk s H scope (compEnvC scope cl C X.env) fp) I1 hD hk hz fun s3 I3 => ⟨_, I3, nx⟩
  · exact thnF q fun kv s1 h1 => thnF h1 fun _ s3 h3 => k s3 h3
  · obtain ⟨f0, f1, f2, f3, f4, f5⟩ := f
    exact ⟨.ref D, H', I'.turned (t' := s'.toks) (fun b o hb e => (sb.2 b hb).trans e) f0 f1 f3 f4 f5, rfl, q⟩
end
end K49
namespace K49
open PySem PySem.Spec PyProof.Rows L2
/-! ### the order of texts, of pairs -/
def leS (x y : PySem.Str) : Bool := decide (x.cps.toList ≤ y.cps.toList)
theorem leS_ord : TOrd leS where
  total := fun a b => by
    unfold leS
    rw [decide_eq_true_iff, decide_eq_true_iff]
    exact List.le_total _ _
  trans := fun a b c => by
    unfold leS
    rw [decide_eq_true_iff, decide_eq_true_iff, decide_eq_true_iff]
    exact List.le_trans
  anti := fun a b => by
    unfold leS
    rw [decide_eq_true_iff, decide_eq_true_iff]
    intro h1 h2
    have e := List.le_antisymm h1 h2
    obtain ⟨x⟩ := a
    obtain ⟨y⟩ := b
    have e' : x = y := Array.toList_inj.mp e
    rw [e']
def encP (p : PySem.Str × Bool) : PyData := .tuple [.str p.1, .bool p.2]
theorem leS_data : (PySem.W.dataLe false fun x : PySem.Str => PyData.str x) = leS := by
  exact PySem.W.dataLe_str (k := fun x : PySem.Str => x)
theorem leP_data : PySem.W.dataLe false encP = leP leS := by
  rw [PySem.W.dataLe_eq]
  funext p q
  show (!PySem.W.dataLt (encP q) (encP p)) = leP leS p q
  unfold encP leP
  rw [PySem.W.dataLt_pair (by simp [PySem.W.alike]) (by simp [PySem.W.alike]), PySem.W.dataLt_bool, PySem.W.dataLt_str]
  have es : PyData.eqv (.str q.1) (.str p.1) = decide (p.1 = q.1) := by
    simp only [PyData.eqv]
    by_cases h : p.1 = q.1
    · rw [h]; simp
    · rw [decide_eq_false h]
      exact beq_eq_false_iff_ne.mpr fun z => h z.symm
  have eb : PyData.eqv (.bool q.2) (.bool p.2) = (q.2 == p.2) := by simp only [PyData.eqv] <;> cases q.2 <;> cases p.2 <;> decide
  rw [es, eb]
  by_cases h : p.1 = q.1
  · rw [if_pos (decide_eq_true h), if_pos h]
    cases q.2 <;> cases p.2 <;> decide
  · rw [if_neg (by rw [decide_eq_false h]; decide), if_neg h]
    unfold leS
    by_cases c : q.1.cps.toList < p.1.cps.toList
    · rw [decide_eq_true c, decide_eq_false (List.not_le.mpr c)] <;> rfl
    · rw [decide_eq_false c, decide_eq_true (List.not_lt.mp c)] <;> rfl
theorem msort_eq {α : Type} {le : α → α → Bool} (o : TOrd le) (l : List α) : l.mergeSort le = srt le l := by
  refine srt_of o (List.mergeSort_perm l le) ?_
  exact List.pairwise_mergeSort (fun a b c => o.trans a b c) (fun a b => by
    rcases o.total a b with h | h
    · rw [h]; rfl
    · rw [h, Bool.or_true]) l
theorem sortedS_asc : ∀ {l : List PySem.Str}, sortedS l = true → Asc leS l
  | [], _ => List.Pairwise.nil
  | [x], _ => List.pairwise_singleton _ _
  | x :: y :: r, h => by
    have h' : (!ltCps y.cps.toList x.cps.toList && risingS y r) = true := h
    rw [Bool.and_eq_true] at h'
    have ih : Asc leS (y :: r) := sortedS_asc (l := y :: r) h'.2
    have xy : leS x y = true := by
      have := h'.1
      rw [ltCps_eq, Bool.not_eq_true', decide_eq_false_iff_not] at this
      exact decide_eq_true (List.not_lt.mp this)
    refine List.pairwise_cons.mpr ⟨fun z hz => ?_, ih⟩
    rcases List.mem_cons.mp hz with rfl | hz
    · exact xy
    · exact leS_ord.trans _ _ _ xy ((List.pairwise_cons.mp ih).1 z hz)
theorem sortedS_srt {l m : List PySem.Str} (p : l.Perm m) (h : sortedS l = true) : l = srt leS m := srt_of leS_ord p (sortedS_asc h)

theorem perm_of_sub {α : Type} [DecidableEq α] : ∀ {l m : List α}, l.Nodup → (∀ x ∈ l, x ∈ m) → m.length = l.length → l.Perm m
  | [], m, _, _, h => by rw [List.eq_nil_of_length_eq_zero h]
  | x :: l, m, d, hs, h => by
    obtain ⟨hx, d'⟩ := List.nodup_cons.mp d
    have xm := hs x List.mem_cons_self
    refine List.Perm.trans ?_ (List.perm_cons_erase xm).symm
    refine (perm_of_sub d' (fun y hy => ?_) ?_).cons x
    · have ne : y ≠ x := fun e => hx (e ▸ hy)
      exact (List.mem_erase_of_ne ne).mpr (hs y (List.mem_cons_of_mem _ hy))
    · rw [List.length_erase_of_mem xm, h]
      rfl
/-! ### sorted(a set of texts) -/
section
variable {X : Cx}
def rSortSet (P : Program) (w : World) : List V → Hp → VK → Prop := fun vs H Q => ∃ (a : Addr) (ks : List PySem.Str), vs = [V.ref a] ∧ H a = some (SetS P w a ks) ∧ ks.length < 1000 ∧ ks.Nodup ∧
  ∀ p, H p = none → Q (.ref p) (upd H p (.lst ((srt leS ks).map V.str)))
theorem strs_list : ∀ (l : List Value), (∀ v ∈ l, ∃ k tk, v = Value.str k tk) → ∃ ks, PySem.W.EachIs (fun v (k : PySem.Str) => ∃ t, v = Value.str k t) l ks
  | [], _ => ⟨[], .nil⟩
  | v :: l, h => by
    obtain ⟨k, tk, rfl⟩ := h v List.mem_cons_self
    obtain ⟨ks, e⟩ := strs_list l fun u hu => h u (List.mem_cons_of_mem _ hu)
    exact ⟨k :: ks, .cons ⟨tk, rfl⟩ e⟩
theorem each_vals : ∀ {l : List Value} {ks : List PySem.Str}, PySem.W.EachIs (fun v (k : PySem.Str) => ∃ t, v = Value.str k t) l ks → Vals (ks.map V.str) l
  | _, _, .nil => .nil
  | _, _, .cons h t => .cons h (each_vals t)
theorem each_at : ∀ {l : List Value} {ks : List PySem.Str}, PySem.W.EachIs (fun v (k : PySem.Str) => ∃ t, v = Value.str k t) l ks → ∀ v ∈ l, ∃ k ∈ ks, ∃ t, v = Value.str k t
  | _, _, .nil, v, hv => by simp at hv
  | _, _, .cons h t, v, hv => by
    rcases List.mem_cons.mp hv with rfl | hv
    · exact ⟨_, List.mem_cons_self, h⟩
    · obtain ⟨k, hk, z⟩ := each_at t v hv
      exact ⟨k, List.mem_cons_of_mem _ hk, z⟩
theorem each_back : ∀ {l : List Value} {ks : List PySem.Str}, PySem.W.EachIs (fun v (k : PySem.Str) => ∃ t, v = Value.str k t) l ks → ∀ k ∈ ks, ∃ t, Value.str k t ∈ l
  | _, _, .nil, k, hk => by simp at hk
  | _, _, .cons ⟨t, e⟩ r, k, hk => by
    rcases List.mem_cons.mp hk with rfl | hk
    · exact ⟨t, by rw [e]; exact List.mem_cons_self⟩
    · obtain ⟨t, h⟩ := each_back r k hk
      exact ⟨t, List.mem_cons_of_mem _ h⟩
theorem cr_sortSet {k : Nat} (hr : Room k X.A) (hc : X.calm = true) : CallR X (.builtin "sorted") (rSortSet X.prog X.w) := by
  intro pins s σ H vs us Q I r h
  obtain ⟨a, ks, rfl, ha, hz, nd, q⟩ := h
  rw [Vals.ref1 r]
  obtain ⟨es, ep, t, ho, F, hr', hl⟩ := (I.hok a _ ha).1
  have hsz : es.size = ks.length := F.sz
  refine Calls.call_function_entry kind_sorted plain_sorted entry_sorted (args_sorted1 _) ?_
  unfold Builtin.«sorted»
  refine wpAny_bind (m := checkCount "sorted" 1 1 _) (wpAny_pure ?_)
  refine wpAny_bind (collect_set (A := X.A.in1) (I.ok.hd hc) ⟨_, ho, rfl, rfl⟩ F.fit (by rw [hsz]; exact scan1000 hz) hr' hl fun s1 vs k1 hz1 g1 o1 pm => ?_)
  have hvl : vs.length = ks.length := by rw [pm.length_eq, List.length_map, Array.length_toList]; exact hsz
  have hstr : ∀ v ∈ vs, ∃ k tk, v = Value.str k tk := fun v hv => by
    obtain ⟨e, he, q⟩ := List.mem_map.mp (pm.mem_iff.mp hv)
    obtain ⟨⟨k, hk, _⟩, _⟩ := F.el e he
    obtain ⟨tk, z⟩ := Value.isStrOf_shape (x := k) (v := e.2) hk
    exact ⟨k, tk, by rw [← q]; exact z⟩
  obtain ⟨ms, em⟩ := strs_list vs hstr
  have hml : ms.length = ks.length := by rw [← em.length]; exact hvl
  have mem : ∀ x, x ∈ ks → x ∈ ms := fun x hx => by
    obtain ⟨e, he, z⟩ := (F.mem x).mp hx
    obtain ⟨tk, z⟩ := Value.isStrOf_shape (x := x) (v := e.2) z
    have hv : e.2 ∈ vs := pm.mem_iff.mpr (List.mem_map.mpr ⟨e, he, rfl⟩)
    obtain ⟨y, hy, u, ey⟩ := each_at em _ hv
    rw [z] at ey
    injection ey with ey _
    rw [ey]; exact hy
  have pmk : ks.Perm ms := perm_of_sub nd mem hml
  refine wpAny_bind (wpAny_newList ?_ (by rw [hvl]; exact Nat.le_of_lt (small_line (by omega))))
  have hoL : (s1.heap.push (seqObj "list" vs.toArray 0)).get? s1.heap.objs.size = some (seqObj "list" vs.toArray 0) := Heap.get?_push_size _ rfl
  have er : PySem.W.EachIs (fun v (x : PySem.Str) => ∃ as, Reads (s1.heap.push (seqObj "list" vs.toArray 0)) v (.str x) as ∧ s1.heap.objs.size ∉ as) vs ms :=
    em.mono fun v x ⟨t, e⟩ => ⟨[], by rw [e]; exact .str x t, by simp⟩
  refine wpAny_bind (wpAny_holding (PySem.W.list_sort_data (enc := fun x : PySem.Str => PyData.str x) (s := { s1 with heap := s1.heap.push (seqObj "list" vs.toArray 0) }) hoL em er (.of fun b b' => rfl) (.others fun b => ⟨fun z => (nomatch z), fun _ z => (nomatch z)⟩)
    (by rw [hml]; exact Nat.le_of_lt (small_line (by omega))) (fun b _ => ?_) fun out hol ho => ?_))
  · have := hr.un
    show X.A.in1.units + 1 + (PyData.str b).depth < cLine
    have e1 : X.A.in1.units = X.A.units + 1 := rfl
    have e2 : (PyData.str b).depth = 0 := rfl
    omega
  · rw [leS_data, msort_eq leS_ord, ← srt_of leS_ord ((srt_perm ks).trans pmk) (srt_asc leS_ord ks)] at ho
    obtain ⟨c, hc2⟩ := sortedHeap_at (vs := vs) (out := out.toArray) hoL
    have hn : H s1.heap.objs.size = none := I.hok.fresh hz1
    have old : ∀ b o, s.heap.get? b = some o → (sortedHeap (s1.heap.push (seqObj "list" vs.toArray 0)) s1.heap.objs.size vs out.toArray).get? b = some o := fun b u e => by
      have q := k1 b u e
      have hlt := Heap.lt_size q
      rw [sortedHeap_old (Nat.ne_of_lt hlt) (by rw [size_push']; exact Nat.lt_succ_of_lt hlt)]
      exact Heap.get?_push_of_some _ q
    have hlen : ((srt leS ks).map V.str).length ≤ sizeLine := by rw [List.length_map, srt_length]; exact Nat.le_of_lt (small_line (by omega))
    refine wpAny_pure ⟨_, rfl, .ref s1.heap.objs.size, upd H s1.heap.objs.size (.lst ((srt leS ks).map V.str)), ?_, rfl, q _ hn⟩
    have hob : ObjOk X.prog X.w (upd H s1.heap.objs.size (.lst ((srt leS ks).map V.str))) (sortedHeap (s1.heap.push (seqObj "list" vs.toArray 0)) s1.heap.objs.size vs out.toArray) s1.heap.objs.size (.lst ((srt leS ks).map V.str)) := ⟨hlen, out, c, each_vals ho, hc2⟩
    have J := I.call (h' := sortedHeap (s1.heap.push (seqObj "list" vs.toArray 0)) s1.heap.objs.size vs out.toArray) (g' := s1.gens) (d' := s1.drawn) (t' := s1.toks) (ch := []) (Un.laid old hz1 hn) (I.hok.laid old hz1 hob) (by rw [g1]; exact I.bare) (fun _ z => nomatch z)
    obtain ⟨hp1, gn1, dr1, tk1, os1⟩ := s1
    obtain rfl : os1 = s.os := o1
    exact J
end

/-! ### sorted(a list of pairs of a text and a truth value) -/
def pairT (p : PySem.Str × Bool) : T := .t [.s p.1, .b p.2]
section
variable {X : Cx}
def rSortPairs : List V → Hp → VK → Prop := fun vs H Q => ∃ (a : Addr) (xs : List V) (ps : List (PySem.Str × Bool)), vs = [V.ref a] ∧ H a = some (.lst xs) ∧ Ats H (ps.map pairT) xs ∧ ps.length < 1000 ∧
  ∀ (ys : List V) p, Ats H ((srt (leP leS) ps).map pairT) ys → H p = none → Q (.ref p) (upd H p (.lst ys))
theorem at_pair {H : Hp} {p : PySem.Str × Bool} {v : V} (h : At H (pairT p) v) : ∃ t, v = V.ref t ∧ H t = some (.tup [V.str p.1, V.bl p.2]) := by
  obtain ⟨t, vs, e1, e2, v1, us, e3, e4, v2, us2, e5, e6, e7⟩ := h
  refine ⟨t, e1, ?_⟩
  rw [e2, e3, e5, show v1 = V.str p.1 from e4, show v2 = V.bl p.2 from e6, show us2 = [] from e7]
theorem pair_at {H : Hp} {p : PySem.Str × Bool} {t : Addr} (h : H t = some (.tup [V.str p.1, V.bl p.2])) : At H (pairT p) (V.ref t) :=
  ⟨t, _, rfl, h, .cons rfl (.cons rfl .nil)⟩
abbrev RPair (H : Hp) (v : Value) (p : PySem.Str × Bool) : Prop := ∃ t, v = Value.ref t ∧ H t = some (.tup [V.str p.1, V.bl p.2])
theorem pairs_each {H : Hp} : ∀ {ps : List (PySem.Str × Bool)} {xs : List V} {us : List Value}, Ats H (ps.map pairT) xs → Vals xs us → PySem.W.EachIs (RPair H) us ps
  | [], xs, us, h, r => by
    rw [show xs = [] from h] at r
    cases r
    exact .nil
  | p :: ps, xs, us, h, r => by
    obtain ⟨v, vs, rfl, h1, h2⟩ := h
    cases r with
    | cons r1 r2 =>
      obtain ⟨t, rfl, e⟩ := at_pair h1
      exact .cons ⟨t, r1, e⟩ (pairs_each h2 r2)
theorem each_pairs {H : Hp} : ∀ {ps : List (PySem.Str × Bool)} {us : List Value}, PySem.W.EachIs (RPair H) us ps → ∃ xs, Ats H (ps.map pairT) xs ∧ Vals xs us ∧ xs.length = ps.length
  | _, _, .nil => ⟨[], .nil, .nil, rfl⟩
  | _, _, .cons ⟨t, e1, e2⟩ r => by
    obtain ⟨xs, h1, h2, h3⟩ := each_pairs r
    exact ⟨V.ref t :: xs, .cons (pair_at e2) h1, .cons e1 h2, by rw [List.length_cons, List.length_cons, h3]⟩
theorem cr_sortPairs {k : Nat} (hr : Room k X.A) : CallR X (.builtin "sorted") rSortPairs := by
  intro pins s σ H vs us Q I r h
  obtain ⟨a, xs, ps, rfl, ha, hA, hz, q⟩ := h
  rw [Vals.ref1 r]
  obtain ⟨hz1, its, n, rv, hob⟩ := I.hok a _ ha
  have em := pairs_each hA rv
  have er : PySem.W.EachIs (fun v (p : PySem.Str × Bool) => ∃ as, Reads s.heap v (encP p) as) its ps := em.mono fun v p ⟨t, e1, e2⟩ => by
    obtain ⟨_, its2, r2, o, ho, hc, m, hd⟩ := I.hok t _ e2
    obtain ⟨u1, u2, rfl, ⟨t1, rfl⟩, rb⟩ := vals2 r2
    obtain rfl : u2 = Value.bool p.2 := rb
    exact ⟨_, by rw [e1]; exact .tuple ho hc hd (.cons (.str _ _) (.cons (.bool _) .nil))⟩
  refine PySem.W.sorted_data (enc := encP) (R := RPair H) (vs := its) ⟨_, hob, rfl, ⟨n, rfl⟩⟩ em er (.of fun b b' => by simp [encP, PySem.W.alike, PySem.W.alikeAll]) (.tuples fun b => ⟨_, _, rfl⟩) (Nat.le_of_lt (small_line (by omega))) (fun b _ => ?_) fun out hol ho => ?_
  · have := hr.un
    have e2 : (encP b).depth ≤ 1 := by simp [encP, PyData.depth, PyData.depthAll]
    omega
  · rw [leP_data, msort_eq (leP_ord leS_ord)] at ho
    obtain ⟨ys, y1, y2, y3⟩ := each_pairs ho
    obtain ⟨c, hc⟩ := sortedAll_at s.heap its out.toArray
    have hn : H (s.heap.objs.size + 1) = none := I.hok.fresh (Nat.le_succ _)
    have hlen : ys.length ≤ sizeLine := by rw [y3, srt_length]; exact Nat.le_of_lt (small_line (by omega))
    exact ⟨.ref _, upd H (s.heap.objs.size + 1) (.lst ys), I.laid (t' := s.toks) (fun _ _ => sortedAll_old) (Nat.le_succ _) ⟨hlen, out, c, y2, hc⟩, rfl, q ys _ y1 hn⟩
end
end K49
namespace K49
open PySem PySem.Spec PyProof.Rows L2
/-! ### rules whose readings speak of tracked lists and tuples alone -/
section
variable {X : Cx}
def rIxT0 : R2 := fun x y H Q => ∃ p xs i v, x = V.ref p ∧ y = V.int i ∧ H p = some (.tup xs) ∧ atI xs i = some v ∧ Q v H
def rIxL0 : R2 := fun x y H Q => ∃ p xs i v, x = V.ref p ∧ y = V.int i ∧ H p = some (.lst xs) ∧ atI xs i = some v ∧ Q v H
theorem ixT0 : IxR X rIxT0 := fun value slice pins s σ H x y v u Q I rx ry ⟨p, xs, i, z, e1, e2, h, a, q⟩ hs => ix_tup value slice pins s σ H x y v u Q I rx ry ⟨p, xs, i, z, e1, e2, SqT.of h, a, q⟩ hs
theorem ixL0 : IxR X rIxL0 := fun value slice pins s σ H x y v u Q I rx ry ⟨p, xs, i, z, e1, e2, h, a, q⟩ hs => ix_list value slice pins s σ H x y v u Q I rx ry ⟨p, xs, i, z, e1, e2, SqL.of h, a, q⟩ hs
/-- a list or tuple of vs at p -/
def LT (H : Hp) (p : Addr) (vs : List V) : Prop := H p = some (.lst vs) ∨ H p = some (.tup vs)
theorem LT.sq {K : PySem.W.Frag} {H : Hp} {p : Addr} {vs : List V} (h : LT H p vs) : SqL K H p vs ∨ SqT K H p vs := h.imp SqL.of SqT.of
theorem LT.mono {H H' : Hp} {p : Addr} {vs : List V} (s : Same H H') (h : LT H p vs) : LT H' p vs := h.imp (s _ _) (s _ _)
theorem flat_str (ss : List PySem.Str) : (ss.map V.str).all flatV = true := by
  induction ss with
  | nil => rfl
  | cons x r ih => rw [List.map_cons, List.all_cons, ih]; rfl
theorem inV_str (a : PySem.Str) : ∀ ss : List PySem.Str, inV (.str a) (ss.map V.str) = decide (a ∈ ss)
  | [] => by simp [inV]
  | x :: r => by
    have ih := inV_str a r
    unfold inV at ih ⊢
    rw [List.map_cons, List.any_cons, ih]
    have e : eqV (.str x) (.str a) = decide (a = x) := by
      show (x == a) = _
      by_cases h : a = x
      · rw [h]; simp
      · rw [decide_eq_false h]
        exact beq_eq_false_iff_ne.mpr fun z => h z.symm
    rw [e]
    by_cases h : a = x <;> by_cases h2 : a ∈ r <;> simp [h, h2]
/-- a text in a list or tuple of texts -/
def rInS : R2 := fun x y H Q => ∃ (a : PySem.Str) (p : Addr) (ss : List PySem.Str), x = V.str a ∧ y = V.ref p ∧ LT H p (ss.map V.str) ∧ Q (.bl (decide (a ∈ ss))) H
def rNotInS : R2 := fun x y H Q => ∃ (a : PySem.Str) (p : Addr) (ss : List PySem.Str), x = V.str a ∧ y = V.ref p ∧ LT H p (ss.map V.str) ∧ Q (.bl (!decide (a ∈ ss))) H
theorem inS : OpR X (compareOp .In) rInS := fun pins s σ H x y v u Q I rx ry ⟨a, p, ss, e1, e2, h, q⟩ => by
  refine op_in_seq pins s σ H x y v u Q I rx ry ⟨p, _, e2, h.sq, by rw [e1] <;> rfl, flat_str ss, ?_⟩
  rw [e1, inV_str]
  exact q
theorem notInS : OpR X (compareOp .NotIn) rNotInS := fun pins s σ H x y v u Q I rx ry ⟨a, p, ss, e1, e2, h, q⟩ => by
  refine op_notIn_seq pins s σ H x y v u Q I rx ry ⟨p, _, e2, h.sq, by rw [e1] <;> rfl, flat_str ss, ?_⟩
  rw [e1, inV_str]
  exact q
/-- an int in a written tuple of ints -/
def rInI : R2 := fun x y H Q => ∃ (a : Int) (p : Addr) (ns : List Int), x = V.int a ∧ y = V.ref p ∧ H p = some (.tup (ns.map V.int)) ∧ Q (.bl (decide (a ∈ ns))) H
theorem inI : OpR X (compareOp .In) rInI := fun pins s σ H x y v u Q I rx ry ⟨a, p, ns, e1, e2, h, q⟩ => by
  have fl : (ns.map V.int).all flatV = true := by
    rw [List.all_map]
    exact List.all_eq_true.mpr fun _ _ => rfl
  refine op_in_seq pins s σ H x y v u Q I rx ry ⟨p, _, e2, .inr (SqT.of h), by rw [e1] <;> rfl, fl, ?_⟩
  have e : inV (.int a) (ns.map V.int) = decide (a ∈ ns) := by
    unfold inV
    rw [List.any_map]
    refine Bool.eq_iff_iff.mpr ?_
    rw [List.any_eq_true, decide_eq_true_iff]
    constructor
    · rintro ⟨z, hz, q⟩
      have q' : (z == a) = true := q
      rw [beq_iff_eq] at q'
      exact q' ▸ hz
    · intro h
      exact ⟨a, h, show (a == a) = true from beq_self_eq_true a⟩
  rw [e1, show (if false = true then !inV (.int a) (ns.map V.int) else inV (.int a) (ns.map V.int)) = decide (a ∈ ns) from e]
  exact q
def rLen : List V → Hp → VK → Prop := fun xs H Q => ∃ p ys, xs = [V.ref p] ∧ LT H p ys ∧ Q (.int ys.length) H
theorem cr_len : CallR X (.builtin "len") rLen := fun pins s σ H xs us Q I r ⟨p, ys, e, h, q⟩ => call_len_seq pins s σ H xs us Q I r ⟨p, ys, e, h.sq, q⟩
def rList : List V → Hp → VK → Prop := fun xs H Q => ∃ p ys, xs = [V.ref p] ∧ LT H p ys ∧ ∀ l, H l = none → Q (.ref l) (upd H l (.lst ys))
theorem cr_list : CallR X (.type "list") rList := fun pins s σ H xs us Q I r ⟨p, ys, e, h, q⟩ => call_list_of pins s σ H xs us Q I r ⟨p, ys, e, h.sq, q⟩
def rTuple : List V → Hp → VK → Prop := fun xs H Q => ∃ p ys, xs = [V.ref p] ∧ H p = some (.lst ys) ∧ ∀ l, H l = none → Q (.ref l) (upd H l (.tup ys))
theorem cr_tuple : CallR X (.type "tuple") rTuple := fun pins s σ H xs us Q I r ⟨p, ys, e, h, q⟩ => call_tuple_of pins s σ H xs us Q I r ⟨p, ys, e, .inl ⟨SqL.of h, q⟩⟩
def rAll0 : List V → Hp → VK → Prop := fun vs H Q => ∃ (a : Addr) (bs : List Bool), vs = [V.ref a] ∧ H a = some (.lst (bs.map V.bl)) ∧ Q (.bl (bs.all id)) H
theorem cr_all0 (hc : X.calm = true) : CallR X (.builtin "all") rAll0 := fun pins s σ H xs us Q I r ⟨p, bs, e, h, q⟩ => cr_all hc pins s σ H xs us Q I r ⟨p, bs, e, SqL.of h, q⟩
def rAny0 : List V → Hp → VK → Prop := fun vs H Q => ∃ (a : Addr) (bs : List Bool), vs = [V.ref a] ∧ H a = some (.lst (bs.map V.bl)) ∧ Q (.bl (bs.any id)) H
theorem cr_any0 (hc : X.calm = true) : CallR X (.builtin "any") rAny0 := fun pins s σ H xs us Q I r ⟨p, bs, e, h, q⟩ => cr_any hc pins s σ H xs us Q I r ⟨p, bs, e, SqL.of h, q⟩
/-- sorted(a list of texts) -/
def rSortL : List V → Hp → VK → Prop := fun vs H Q => ∃ (a : Addr) (ss : List PySem.Str), vs = [V.ref a] ∧ H a = some (.lst (ss.map V.str)) ∧ ss.length < 64 ∧ ∀ p, H p = none → Q (.ref p) (upd H p (.lst ((srt leS ss).map V.str)))
theorem cr_sortL : CallR X (.builtin "sorted") rSortL := fun pins s σ H xs us Q I r ⟨p, ss, e, h, hz, q⟩ => cr_sortedS pins s σ H xs us Q I r ⟨p, ss, e, SqL.of h, hz, fun ys l pm so hn => by
  rw [sortedS_srt pm so]
  exact q l hn⟩
/-- t[1:] of a tuple -/
def rSl0T : V → Option Int → Option Int → Hp → VK → Prop := fun x lo hi H Q => ∃ a y xs, x = V.ref a ∧ lo = some 1 ∧ hi = none ∧ H a = some (.tup (y :: xs)) ∧ ∀ p, H p = none → Q (.ref p) (upd H p (.tup xs))
theorem sl0T : SlR X rSl0T := fun pins s σ H x v vl vu lo hi sl Q I rx hs pl pu ⟨a, y, xs, e, e1, e2, h, q⟩ => by
  subst e e1 e2
  refine sl_tup pins s σ H _ v vl vu (some 1) none sl Q I rx hs pl pu ⟨a, y :: xs, rfl, SqT.of h, ?_, fun p hp => ?_⟩
  · have e : HT.sIx (y :: xs).length 0 (some 1) = 1 := by
      have := HT.sIx_nat (y :: xs).length 0 1
      rw [List.length_cons] at this ⊢
      show HT.sIx (xs.length + 1) 0 (some ((1 : Nat) : Int)) = 1
      rw [this]
      omega
    rintro ⟨z, _⟩
    rw [e] at z
    cases z
  · have e : cutV (y :: xs) (some 1) none = xs := by
      have e : HT.sIx (y :: xs).length 0 (some 1) = 1 := by
        have := HT.sIx_nat (y :: xs).length 0 1
        rw [List.length_cons] at this ⊢
        show HT.sIx (xs.length + 1) 0 (some ((1 : Nat) : Int)) = 1
        rw [this]
        omega
      unfold cutV
      rw [e, HT.sIx_none]
      show (xs.take (xs.length + 1 - 1)) = xs
      rw [Nat.add_sub_cancel, List.take_length]
    rw [e]
    exact q p hp
/-- xs[:n] of a list -/
def rSl0L : V → Option Int → Option Int → Hp → VK → Prop := fun x lo hi H Q => ∃ (a : Addr) (xs : List V) (n : Nat), x = V.ref a ∧ lo = none ∧ hi = some (n : Int) ∧ H a = some (.lst xs) ∧ ∀ p, H p = none → Q (.ref p) (upd H p (.lst (xs.take n)))
theorem sl0L : SlR X rSl0L := fun pins s σ H x v vl vu lo hi sl Q I rx hs pl pu ⟨a, xs, n, e, e1, e2, h, q⟩ => by
  subst e e1 e2
  refine sl_list pins s σ H _ v vl vu none (some (n : Int)) sl Q I rx hs pl pu ⟨a, xs, rfl, SqL.of h, fun p hp => ?_⟩
  have e : cutV xs none (some (n : Int)) = xs.take n := by
    unfold cutV
    rw [HT.sIx_none, HT.sIx_nat]
    show (xs.drop 0).take (min n xs.length - 0) = xs.take n
    rw [List.drop_zero, Nat.sub_zero]
    by_cases c : n ≤ xs.length
    · rw [Nat.min_eq_left c]
    · rw [Nat.min_eq_right (by omega), List.take_length, List.take_of_length_le (by omega)]
  rw [e]
  exact q p hp
/-- t + u of tuples -/
def rCatA0 : R2 := fun x y H Q => ∃ a b xs ys, x = V.ref a ∧ y = V.ref b ∧ H a = some (.tup xs) ∧ H b = some (.tup ys) ∧ xs.length + ys.length ≤ sizeLine ∧ ∀ p H', Same H H' → H' p = some (.tup (xs ++ ys)) → Q (.ref p) H'
theorem catA0 : OpR X (binaryOp .Add) rCatA0 := fun pins s σ H x y v u Q I rx ry ⟨a, b, xs, ys, e1, e2, h1, h2, hz, q⟩ =>
  op_catA pins s σ H x y v u Q I rx ry ⟨a, b, xs, ys, e1, e2, SqT.of h1, SqT.of h2, hz, fun e => q b H (Same.refl H) (by rw [e]; exact h2), fun _ e => q a H (Same.refl H) (by rw [e, List.append_nil]; exact h1), fun _ _ p hp => q p _ (same_new hp _) upd_same⟩
/-- a, b, .. = a tuple -/
def gTup0 (n : Nat) (t : TGs) : TG := fun v σ H Q => ∃ a xs, v = V.ref a ∧ H a = some (.tup xs) ∧ xs.length = n ∧ t xs σ H Q
theorem pg_tup0 {es : List Expr} {k : Nat} {pos : Pos} {t : TGs} {n : Nat} (hc : X.calm = true) (h : PGs X es t)
    (hn : (assignEach es X.env).length = n := by rfl) (hst : (assignEach es X.env).findIdx? (·.1) = none := by rfl) : PG X (.Tuple es k pos) (gTup0 n t) := by
  have g := pg_tup (pos := pos) (k := k) hc h hn hst
  exact ⟨fun pins s σ H v u Q I r ⟨a, xs, e, hx, hl, q⟩ => g.run pins s σ H v u Q I r ⟨a, xs, e, SqT.of hx, hl, q⟩⟩
/-- a list as a test -/
theorem pt_lst {a : Expr} {ta : TE} (ha : PE X a ta) (he : ∀ whole, isTrue a X.env whole = (do let v ← whole; standAt a.pos; holding [v] (truthy v)) := by intro _; rfl) :
    PT X a (fun σ H Q => ta σ H fun x H' => ∃ p xs, x = V.ref p ∧ H' p = some (.lst xs) ∧ Q (!xs.isEmpty) H') := by
  have h := pt_truth ha he
  refine ⟨fun pins s σ H Q I hw => thn (ha.run pins s σ H _ I hw) (fun _ _ z => z) |> fun _ => ?_⟩
  refine isTrue_plain (thn (ha.run pins s σ H _ I hw) fun v s1 ⟨x, H1, I1, r1, p, xs, e, hp, q⟩ => ?_) (he _)
  subst e
  exact tru_ok pins s1 σ H1 _ v Q I1 r1 ⟨_, .inl ⟨xs, SqL.of hp, rfl⟩, q⟩
end
theorem at0 {x : V} {us : List V} : atI (x :: us) 0 = some x := atI_nat (j := 0) rfl
theorem at1 {x y : V} {us : List V} : atI (x :: y :: us) 1 = some y := atI_nat (j := 1) rfl
theorem at2 {x y z : V} {us : List V} : atI (x :: y :: z :: us) 2 = some z := atI_nat (j := 2) rfl
theorem ifT {c : Bool} {A B : Prop} (hc : c = true) (h : A) : if c = true then A else B := by
  rw [if_pos hc]
  exact h
theorem ifF {c : Bool} {A B : Prop} (hc : c = false) (h : B) : if c = true then A else B := by
  rw [if_neg (by rw [hc]; decide)]
  exact h
/-! ### a def that may be called -/
structure Def (P : Program) (w : World) (K : PySem.W.Frag) (mg : PySem.Str → Option Value) (base : Heap) (CX : CXT) (k : Nat) (x : PySem.Str) (ps : List PySem.Str) (sp : Sp) : Prop where
  ex : ∃ f fd, FnOk P w K mg base CX k f fd ps sp ∧ mg x = some (.ref f) ∧ PySem.W.keepIn K (.ref f) = true ∧ Binds K fd ps []
theorem Def.mono {P : Program} {w : World} {K : PySem.W.Frag} {mg : PySem.Str → Option Value} {base : Heap} {CX : CXT} {k j : Nat} {x : PySem.Str} {ps : List PySem.Str} {sp : Sp} (D : Def P w K mg base CX k x ps sp) (h : k ≤ j) : Def P w K mg base CX j x ps sp := by
  obtain ⟨f, fd, F, r⟩ := D.ex
  exact ⟨f, fd, F.mono h, r⟩
section
variable {X : Cx} {CX : CXT} {k : Nat} {x : PySem.Str} {ps : List PySem.Str} {sp : Sp} {E : XK} {p pos : Pos} {e : Expr} {es : List Expr} {t : TA}
def tCallD (sp : Sp) (E : XK) (t : TA) : TE := fun σ H Q => t σ H fun vs H1 => sp vs H1 Q E
theorem pe_callD (D : Def X.prog X.w X.K X.mg X.base CX k x ps sp) (hr : Room k X.A) (hg : Gl X x) (hx : Passes CX X E) (ha : PA X (e :: es) t) (hdb : (x == ("__debug__" : PySem.Str)) = false := by decide)
    (he : starEach (e :: es) X.env = (false, eval e X.env) :: starEach es X.env := by rfl) (hpl : (backTo pos (starEach es X.env)).any (·.1) = false := by rfl) : PE X (.Call (.Name x p) (e :: es) [] pos) (tCallD sp E t) := by
  obtain ⟨f, fd, F, hm, hk, hb⟩ := D.ex
  have h := pe_call (p := p) (pos := pos) F hr hg hm hk hb .nil hx ha hdb he hpl
  refine ⟨fun pins s σ H Q I q => h.run pins s σ H Q I ?_⟩
  show t σ H fun vs H1 => sp (vs ++ []) H1 Q E
  simp only [List.append_nil]
  exact q
def tCallDS (sp : Sp) (E : L2.St → XK) (t : TA) : TE := fun σ H Q => t σ H fun vs H1 => sp vs H1 Q (E σ)
theorem pe_callDS {E : L2.St → XK} (D : Def X.prog X.w X.K X.mg X.base CX k x ps sp) (hr : Room k X.A) (hg : Gl X x) (hx : ∀ σ, PassesAt CX X σ (E σ)) (ha : PA X (e :: es) t) (hdb : (x == ("__debug__" : PySem.Str)) = false := by decide)
    (he : starEach (e :: es) X.env = (false, eval e X.env) :: starEach es X.env := by rfl) (hpl : (backTo pos (starEach es X.env)).any (·.1) = false := by rfl) : PE X (.Call (.Name x p) (e :: es) [] pos) (tCallDS sp E t) := by
  obtain ⟨f, fd, F, hm, hk, hb⟩ := D.ex
  exact pe_callS (p := p) (pos := pos) F hr hg hm hk hb hx ha hdb he hpl
end
/-- the built-ins that the text calls -/
structure Blt (mg : PySem.Str → Option Value) : Prop where
  len : mg "len" = none
  list : mg "list" = none
  tuple : mg "tuple" = none
  sorted : mg "sorted" = none
  all : mg "all" = none
  any : mg "any" = none
  reversed : mg "reversed" = none
  isinstance : mg "isinstance" = none
  dict : mg "dict" = none
  int : mg "int" = none
  str : mg "str" = none
  bool : mg "bool" = none
  abs : mg "abs" = none
  max : mg "max" = none
  range : mg "range" = none
end K49
namespace K49
open PySem PySem.Spec PyProof.Rows L2
/-! ### facts as data -/
abbrev Fs := F PySem.Str
mutual
def tF : Fs → T
  | .tt => .t [.s "true"]
  | .ff => .t [.s "false"]
  | .com n => .t [.s "commits", .s n]
  | .one ns => .t [.s "one of", tS ns]
  | .nt f => .t [.s "not", tF f]
  | .im l r => .t [.s "implies", tF l, tF r]
  | .an fs => .t [.s "and", .t (tFs fs)]
  | .oo fs => .t [.s "or", .t (tFs fs)]
def tFs : List Fs → List T
  | [] => []
  | f :: r => tF f :: tFs r
end
theorem tFs_map : ∀ fs : List Fs, tFs fs = fs.map tF
  | [] => rfl
  | f :: r => by rw [tFs, tFs_map r, List.map_cons]
/-- its kind -/
inductive Kd where
  | tt | ff | com | one | nt | im | an | oo
  deriving DecidableEq
def kd : Fs → Kd
  | .tt => .tt
  | .ff => .ff
  | .com _ => .com
  | .one _ => .one
  | .nt _ => .nt
  | .im _ _ => .im
  | .an _ => .an
  | .oo _ => .oo
def wK : Kd → PySem.Str
  | .tt => "true"
  | .ff => "false"
  | .com => "commits"
  | .one => "one of"
  | .nt => "not"
  | .im => "implies"
  | .an => "and"
  | .oo => "or"
theorem kd_com {f : Fs} (h : kd f = .com) : ∃ n, f = .com n := by
  cases f <;> first | exact ⟨_, rfl⟩ | (simp [kd] at h)
theorem kd_one {f : Fs} (h : kd f = .one) : ∃ ns, f = .one ns := by
  cases f <;> first | exact ⟨_, rfl⟩ | (simp [kd] at h)
theorem kd_nt {f : Fs} (h : kd f = .nt) : ∃ g, f = .nt g := by
  cases f <;> first | exact ⟨_, rfl⟩ | (simp [kd] at h)
theorem kd_im {f : Fs} (h : kd f = .im) : ∃ l r, f = .im l r := by
  cases f <;> first | exact ⟨_, _, rfl⟩ | (simp [kd] at h)
theorem kd_an {f : Fs} (h : kd f = .an) : ∃ fs, f = .an fs := by
  cases f <;> first | exact ⟨_, rfl⟩ | (simp [kd] at h)
theorem kd_oo {f : Fs} (h : kd f = .oo) : ∃ fs, f = .oo fs := by
  cases f <;> first | exact ⟨_, rfl⟩ | (simp [kd] at h)
/-- its first item -/
def wd (f : Fs) : PySem.Str := wK (kd f)
theorem in_ao (k : Kd) : decide (wK k ∈ (["and", "or"] : List PySem.Str)) = decide (k = .an ∨ k = .oo) := by cases k <;> decide +kernel
theorem in_ni (k : Kd) : decide (wK k ∈ (["not", "implies"] : List PySem.Str)) = decide (k = .nt ∨ k = .im) := by cases k <;> decide +kernel
theorem is_com (k : Kd) : decide (V.str (wK k) = V.str "commits") = decide (k = .com) := by cases k <;> decide +kernel
theorem is_one (k : Kd) : decide (V.str (wK k) = V.str "one of") = decide (k = .one) := by cases k <;> decide +kernel
theorem is_nt (k : Kd) : decide (V.str (wK k) = V.str "not") = decide (k = .nt) := by cases k <;> decide +kernel
theorem is_an (k : Kd) : decide (V.str (wK k) = V.str "and") = decide (k = .an) := by cases k <;> decide +kernel
theorem is_oo (k : Kd) : decide (V.str (wK k) = V.str "or") = decide (k = .oo) := by cases k <;> decide +kernel
theorem is_im (k : Kd) : decide (V.str (wK k) = V.str "implies") = decide (k = .im) := by cases k <;> decide +kernel
theorem is_tt (k : Kd) : decide (V.str (wK k) = V.str "true") = decide (k = .tt) := by cases k <;> decide +kernel
/-- the rest -/
def rs : Fs → List T
  | .tt => []
  | .ff => []
  | .com n => [.s n]
  | .one ns => [tS ns]
  | .nt f => [tF f]
  | .im l r => [tF l, tF r]
  | .an fs => [.t (tFs fs)]
  | .oo fs => [.t (tFs fs)]
theorem tF_eq (f : Fs) : tF f = .t (.s (wd f) :: rs f) := by cases f <;> rfl
theorem at_tF {H : Hp} {f : Fs} {v : V} (h : At H (tF f) v) : ∃ (a : Addr) (vs : List V), v = V.ref a ∧ H a = some (.tup (V.str (wd f) :: vs)) ∧ Ats H (rs f) vs := by
  rw [tF_eq] at h
  obtain ⟨a, us, rfl, e, u, vs, rfl, e2, e3⟩ := h
  rw [show u = V.str (wd f) from e2] at e
  exact ⟨a, vs, rfl, e, e3⟩
/-- nested at most n deep, few parts -/
def FOk : Nat → Fs → Prop
  | 0, _ => False
  | _ + 1, .tt => True
  | _ + 1, .ff => True
  | _ + 1, .com _ => True
  | _ + 1, .one ns => ns.length ≤ 10
  | n + 1, .nt f => FOk n f
  | n + 1, .im l r => FOk n l ∧ FOk n r
  | n + 1, .an fs => fs.length ≤ 10 ∧ ∀ g ∈ fs, FOk n g
  | n + 1, .oo fs => fs.length ≤ 10 ∧ ∀ g ∈ fs, FOk n g
theorem FOk.up : ∀ {n : Nat} {f : Fs}, FOk n f → FOk (n + 1) f
  | 0, _, h => h.elim
  | n + 1, .tt, _ => True.intro
  | n + 1, .ff, _ => True.intro
  | n + 1, .com _, _ => True.intro
  | n + 1, .one ns, h => h
  | n + 1, .nt f, h => FOk.up (n := n) h
  | n + 1, .im l r, h => ⟨FOk.up (n := n) h.1, FOk.up (n := n) h.2⟩
  | n + 1, .an fs, h => ⟨h.1, fun g hg => FOk.up (n := n) (h.2 g hg)⟩
  | n + 1, .oo fs, h => ⟨h.1, fun g hg => FOk.up (n := n) (h.2 g hg)⟩
theorem FOk.mono {n m : Nat} {f : Fs} (h : FOk n f) (hm : n ≤ m) : FOk m f := by
  induction hm with
  | refl => exact h
  | step _ ih => exact ih.up
theorem flat_len {α β : Type} (g : α → List β) (m : Nat) : ∀ l : List α, (∀ x ∈ l, (g x).length ≤ m) → (l.flatMap g).length ≤ l.length * m
  | [], _ => by simp
  | x :: r, h => by
    have ih := flat_len g m r fun y hy => h y (List.mem_cons_of_mem _ hy)
    have hx := h x List.mem_cons_self
    rw [List.flatMap_cons, List.length_append, List.length_cons, Nat.succ_mul]
    omega
theorem nm_len : ∀ (n : Nat) (f : Fs), FOk n f → (nm f).length ≤ 10 ^ n
  | 0, _, h => h.elim
  | n + 1, .tt, _ => by simp [nm]
  | n + 1, .ff, _ => by simp [nm]
  | n + 1, .com _, _ => by
    show 1 ≤ 10 ^ (n + 1)
    exact Nat.pos_of_ne_zero (by simp)
  | n + 1, .one ns, h => by
    have h' : ns.length ≤ 10 := h
    show ns.length ≤ 10 ^ (n + 1)
    have : 1 ≤ 10 ^ n := Nat.pos_of_ne_zero (by simp)
    rw [Nat.pow_succ]
    omega
  | n + 1, .nt f, h => by
    have ih := nm_len n f h
    show (nm f).length ≤ 10 ^ (n + 1)
    rw [Nat.pow_succ]
    omega
  | n + 1, .im l r, h => by
    have i1 := nm_len n l h.1
    have i2 := nm_len n r h.2
    show (nm l ++ nm r).length ≤ 10 ^ (n + 1)
    rw [Nat.pow_succ, List.length_append]
    omega
  | n + 1, .an fs, h => by
    have i := flat_len nm (10 ^ n) fs fun g hg => nm_len n g (h.2 g hg)
    show (nms fs).length ≤ 10 ^ (n + 1)
    rw [nms_flat, Nat.pow_succ]
    have := Nat.mul_le_mul_right (10 ^ n) h.1
    omega
  | n + 1, .oo fs, h => by
    have i := flat_len nm (10 ^ n) fs fun g hg => nm_len n g (h.2 g hg)
    show (nms fs).length ≤ 10 ^ (n + 1)
    rw [nms_flat, Nat.pow_succ]
    have := Nat.mul_le_mul_right (10 ^ n) h.1
    omega
def partsF : Fs → List Fs
  | .nt f => [f]
  | .im l r => [l, r]
  | .an fs => fs
  | .oo fs => fs
  | _ => []
def listF : Fs → List PySem.Str
  | .com n => [n]
  | .one ns => ns
  | _ => []
theorem nm_split (f : Fs) : nm f = listF f ++ (partsF f).flatMap nm := by
  cases f <;> simp [nm, listF, partsF, nms_flat]
theorem FOk.parts {n : Nat} {f : Fs} (h : FOk (n + 1) f) : (partsF f).length ≤ 10 ∧ (∀ g ∈ partsF f, FOk n g) ∧ (listF f).length ≤ 10 := by
  cases f with
  | tt => exact ⟨Nat.zero_le _, fun g hg => by simp [partsF] at hg, Nat.zero_le _⟩
  | ff => exact ⟨Nat.zero_le _, fun g hg => by simp [partsF] at hg, Nat.zero_le _⟩
  | com n => exact ⟨Nat.zero_le _, fun g hg => by simp [partsF] at hg, by simp [listF]⟩
  | one ns => exact ⟨Nat.zero_le _, fun g hg => by simp [partsF] at hg, h⟩
  | nt f => exact ⟨by simp [partsF], fun g hg => by simp [partsF] at hg; rw [hg]; exact h, Nat.zero_le _⟩
  | im l r => exact ⟨by simp [partsF], fun g hg => by
      simp [partsF] at hg
      rcases hg with rfl | rfl
      · exact h.1
      · exact h.2, Nat.zero_le _⟩
  | an fs => exact ⟨h.1, h.2, Nat.zero_le _⟩
  | oo fs => exact ⟨h.1, h.2, Nat.zero_le _⟩

/-! ### the text -/
abbrev s_parts_of : Stmt := top 5
abbrev n_parts_of : List PySem.Str := ["fact"]
theorem sc_parts_of : FnScope n_parts_of ["fact"] (defScope s_parts_of) := ⟨rfl, rfl, rfl, by decide +kernel, rfl, by decide +kernel, by decide +kernel⟩
def spParts : Sp := fun vs H Q _ => ∃ (f : Fs) (v : V), vs = [v] ∧ At H (tF f) v ∧ ∀ (u : V) H', Same H H' → At H' (.t ((partsF f).map tF)) u → Q u H'
def spListed : Sp := fun vs H Q _ => ∃ (f : Fs) (v : V), vs = [v] ∧ At H (tF f) v ∧ ∀ (u : V) H', Same H H' → At H' (tS (listF f)) u → Q u H'
theorem two_line : (2 : Nat) ≤ sizeLine := by decide
theorem at_tup {H : Hp} {p : Addr} {ts : List T} {vs : List V} (h : Ats H ts vs) (hp : H p = some (.tup vs)) : At H (.t ts) (V.ref p) := ⟨p, vs, rfl, hp, h⟩
section
variable {P : Program} {w : World} {K : PySem.W.Frag} {mg : PySem.Str → Option Value} {base : Heap} {f : Addr} {fd : FuncData}
theorem ok_parts_of (F : Fun K "parts_of" "parts_of" s_parts_of f fd) : FnOk P w K mg base CX0 1 f fd ["fact"] spParts := by
  refine F.ok sc_parts_of (fun vs H Q E h => ?_) (fun cdv A outer s H vs Q E hr h => ?_)
  · obtain ⟨f, v, rfl, _⟩ := h
    rfl
  obtain ⟨f, v, rfl, hf, k⟩ := h
  obtain ⟨a, us, rfl, ha, hus⟩ := at_tF hf
  refine ⟨_, (pss_cons (ps_if (pt_cmpR inS (pe_ix ixT0 (pv 0) pe_int (fun _ _ => rfl)) (pe_tup (pa_cons pe_str (pa_cons pe_str pa_nil))) (by rfl)) (pss_one (ps_ret (pe_ix ixT0 (pv 0) pe_int (fun _ _ => rfl)))) pss_nil)
    (pss_cons (ps_if (pt_cmpR inS (pe_ix ixT0 (pv 0) pe_int (fun _ _ => rfl)) (pe_tup (pa_cons pe_str (pa_cons pe_str pa_nil))) (by rfl)) (pss_one (ps_ret (pe_slice sl0T (pv 0) (po_some pe_int) po_none))) pss_nil)
    (pss_one (ps_ret (pe_tup pa_nil))))), ?_⟩
  refine ⟨_, rfl, a, _, 0, _, rfl, rfl, ha, at0, two_line, fun p hp => ⟨wd f, p, ["and", "or"], rfl, rfl, .inr upd_same, _, rfl, ?_⟩⟩
  have s1 := same_new hp (.tup [V.str "and", V.str "or"])
  generalize upd H p (.tup [V.str "and", V.str "or"]) = H1 at s1 ⊢
  show (if decide (wK (kd f) ∈ (["and", "or"] : List PySem.Str)) = true then _ else _)
  rw [in_ao]
  by_cases c : kd f = .an ∨ kd f = .oo
  · refine ifT (decide_eq_true c) ?_
    have e : rs f = [.t ((partsF f).map tF)] := by
      cases f <;> first | (simp only [rs, partsF, tFs_map]; done) | exact absurd c (by simp [kd])
    rw [e] at hus
    obtain ⟨u, r, rfl, hu, _⟩ := hus
    exact ⟨_, rfl, a, _, 1, u, rfl, rfl, s1 _ _ ha, at1, k _ _ s1 (hu.mono (.of s1))⟩
  · refine ifF (decide_eq_false c) ?_
    refine ⟨_, rfl, a, _, 0, _, rfl, rfl, s1 _ _ ha, at0, two_line, fun p2 hp2 => ⟨wd f, p2, ["not", "implies"], rfl, rfl, .inr upd_same, _, rfl, ?_⟩⟩
    have s2 := s1.trans (same_new hp2 (.tup [V.str "not", V.str "implies"]))
    generalize upd H1 p2 (.tup [V.str "not", V.str "implies"]) = H2 at s2 ⊢
    show (if decide (wK (kd f) ∈ (["not", "implies"] : List PySem.Str)) = true then _ else _)
    rw [in_ni]
    by_cases c2 : kd f = .nt ∨ kd f = .im
    · refine ifT (decide_eq_true c2) ?_
      refine ⟨_, rfl, _, rfl, a, _, us, rfl, rfl, rfl, s2 _ _ ha, fun p3 hp3 => ?_⟩
      have s3 := s2.trans (same_new hp3 (.tup us))
      refine k _ _ s3 (at_tup ?_ upd_same)
      have e : (partsF f).map tF = rs f := by
        cases f <;> first | rfl | exact absurd c2 (by simp [kd])
      rw [e]
      exact hus.mono (.of s3)
    · refine ifF (decide_eq_false c2) ?_
      refine ⟨Nat.zero_le _, fun p3 hp3 => ?_⟩
      have s3 := s2.trans (same_new hp3 (.tup []))
      refine k _ _ s3 (at_tup ?_ upd_same)
      have e : (partsF f).map tF = [] := by
        cases f <;> simp [kd, partsF] at c c2 ⊢
      rw [e]
      exact .nil
end
end K49
namespace K49
open PySem PySem.Spec PyProof.Rows L2
abbrev s_listed_names : Stmt := top 6
abbrev n_listed_names : List PySem.Str := ["fact"]
theorem sc_listed_names : FnScope n_listed_names ["fact"] (defScope s_listed_names) := ⟨rfl, rfl, rfl, by decide +kernel, rfl, by decide +kernel, by decide +kernel⟩
abbrev s_add_names : Stmt := top 7
abbrev n_add_names : List PySem.Str := ["fact", "found", "name", "part"]
theorem sc_add_names : FnScope n_add_names ["fact", "found"] (defScope s_add_names) := ⟨rfl, rfl, rfl, by decide +kernel, rfl, by decide +kernel, by decide +kernel⟩
abbrev s_names_of : Stmt := top 8
abbrev n_names_of : List PySem.Str := ["fact", "found"]
theorem sc_names_of : FnScope n_names_of ["fact"] (defScope s_names_of) := ⟨rfl, rfl, rfl, by decide +kernel, rfl, by decide +kernel, by decide +kernel⟩
abbrev s_holds : Stmt := top 9
abbrev n_holds : List PySem.Str := ["fact", "committed", "word", "name", "part"]
theorem sc_holds : FnScope n_holds ["fact", "committed"] (defScope s_holds) := ⟨rfl, rfl, rfl, by decide +kernel, rfl, by decide +kernel, by decide +kernel⟩

/-- all stands but the object at p -/
def Kb (p : Addr) (H H' : Hp) : Prop := ∀ b o, b ≠ p → H b = some o → H' b = some o
theorem Kb.refl (p : Addr) (H : Hp) : Kb p H H := fun _ _ _ e => e
theorem Kb.trans {p : Addr} {H H1 H2 : Hp} (a : Kb p H H1) (b : Kb p H1 H2) : Kb p H H2 := fun c o n e => b c o n (a c o n e)
theorem Kb.of {p : Addr} {H H' : Hp} (s : Same H H') : Kb p H H' := fun b o _ e => s b o e
theorem Kb.put (p : Addr) (H : Hp) (o : HO) : Kb p H (upd H p o) := fun b u n e => by
  rw [upd_ne n]
  exact e
theorem Kb.ts {p : Addr} {H H' : Hp} (k : Kb p H H') {xs : List V} (h : H p = some (.lst xs)) : TS H H' := fun b ys e => k b _ (fun z => by rw [z, h] at e; cases e) e
/-- what was made at p alone -/
theorem Kb.same {p : Addr} {H H1 H' : Hp} (s : Same H H1) (k : Kb p H1 H') (n : H p = none) : Same H H' := fun b o e => k b o (ne_of_none e n) (s b o e)
def spAddN (n : Nat) : Sp := fun vs H Q _ => ∃ (f : Fs) (v : V) (p : Addr) (acc : List PySem.Str), vs = [v, V.ref p] ∧ FOk n f ∧ At H (tF f) v ∧ H p = some (.lst (acc.map V.str)) ∧ acc.length + (nm f).length ≤ 20000 ∧
  ∀ H', Kb p H H' → H' p = some (.lst ((once acc (nm f)).map V.str)) → Q .non H'
def spNames : Sp := fun vs H Q _ => ∃ (f : Fs) (v : V), vs = [v] ∧ FOk 4 f ∧ At H (tF f) v ∧ ∀ (u : V) H', Same H H' → At H' (tS (once [] (nm f))) u → Q u H'
def spHolds (n : Nat) : Sp := fun vs H Q _ => ∃ (f : Fs) (c : List PySem.Str) (v u : V), vs = [v, u] ∧ FOk n f ∧ At H (tF f) v ∧ At H (tS c) u ∧ ∀ H', Same H H' → Q (.bl (ev f fun x => decide (x ∈ c))) H'
theorem once_len : ∀ (l acc : List PySem.Str), (once acc l).length ≤ acc.length + l.length
  | [], acc => by simp [once]
  | x :: l, acc => by
    have e : once acc (x :: l) = once (if x ∈ acc then acc else acc ++ [x]) l := rfl
    rw [e]
    have h := once_len l (if x ∈ acc then acc else acc ++ [x])
    rw [List.length_cons]
    split at h
    · rename_i c
      rw [if_pos c]
      omega
    · rename_i c
      rw [if_neg c]
      rw [List.length_append, List.length_singleton] at h
      omega
theorem once_snoc (acc l : List PySem.Str) (x : PySem.Str) : once acc (l ++ [x]) = if x ∈ once acc l then once acc l else once acc l ++ [x] := by
  rw [once_append]
  rfl
theorem take_cat {α β : Type} (g : α → List β) {l : List α} {i : Nat} {x : α} (h : l[i]? = some x) : (l.take (i + 1)).flatMap g = (l.take i).flatMap g ++ g x := by
  rw [take_succ h, List.flatMap_append]
  simp
theorem flat_take {α β : Type} (g : α → List β) (l : List α) (i : Nat) : ((l.take i).flatMap g).length ≤ (l.flatMap g).length := by
  conv => rhs; rw [← List.take_append_drop i l, List.flatMap_append]
  rw [List.length_append]
  omega
section
variable {P : Program} {w : World} {K : PySem.W.Frag} {mg : PySem.Str → Option Value} {base : Heap} {f : Addr} {fd : FuncData}
theorem ok_listed_names (F : Fun K "listed_names" "listed_names" s_listed_names f fd) : FnOk P w K mg base CX0 1 f fd ["fact"] spListed := by
  refine F.ok sc_listed_names (fun vs H Q E h => ?_) (fun cdv A outer s H vs Q E hr h => ?_)
  · obtain ⟨f, v, rfl, _⟩ := h
    rfl
  obtain ⟨f, v, rfl, hf, k⟩ := h
  obtain ⟨a, us, rfl, ha, hus⟩ := at_tF hf
  refine ⟨_, (pss_cons (ps_if (pt_cmpR op_eq (pe_ix ixT0 (pv 0) pe_int (fun _ _ => rfl)) pe_str (nomark _)) (pss_one (ps_ret (pe_tup (pa_cons (pe_ix ixT0 (pv 0) pe_int (fun _ _ => rfl)) pa_nil)))) pss_nil)
    (pss_cons (ps_if (pt_cmpR op_eq (pe_ix ixT0 (pv 0) pe_int (fun _ _ => rfl)) pe_str (nomark _)) (pss_one (ps_ret (pe_ix ixT0 (pv 0) pe_int (fun _ _ => rfl)))) pss_nil)
    (pss_one (ps_ret (pe_tup pa_nil))))), ?_⟩
  refine ⟨_, rfl, a, _, 0, _, rfl, rfl, ha, at0, rfl, _, rfl, ?_⟩
  show (if decide (V.str (wK (kd f)) = V.str "commits") = true then _ else _)
  rw [is_com]
  by_cases c : kd f = .com
  · refine ifT (decide_eq_true c) ?_
    obtain ⟨n, rfl⟩ := kd_com c
    obtain ⟨u, r, rfl, hu, _⟩ := hus
    refine ⟨_, rfl, a, _, 1, u, rfl, rfl, ha, at1, (by show 1 ≤ sizeLine; decide), fun p hp => ?_⟩
    exact k _ _ (same_new hp _) (at_tup (.cons (hu.mono (.of (same_new hp _))) .nil) upd_same)
  · refine ifF (decide_eq_false c) ?_
    refine ⟨_, rfl, a, _, 0, _, rfl, rfl, ha, at0, rfl, _, rfl, ?_⟩
    show (if decide (V.str (wK (kd f)) = V.str "one of") = true then _ else _)
    rw [is_one]
    by_cases c2 : kd f = .one
    · refine ifT (decide_eq_true c2) ?_
      obtain ⟨ns, rfl⟩ := kd_one c2
      obtain ⟨u, r, rfl, hu, _⟩ := hus
      exact ⟨_, rfl, a, _, 1, u, rfl, rfl, ha, at1, k _ _ (Same.refl H) hu⟩
    · refine ifF (decide_eq_false c2) ?_
      refine ⟨Nat.zero_le _, fun p hp => ?_⟩
      refine k _ _ (same_new hp _) (at_tup ?_ upd_same)
      have e : listF f = [] := by cases f <;> simp [kd, listF] at c c2 ⊢
      rw [e]
      exact .nil
theorem add_none : FnOk P w K mg base CX0 2 f fd ["fact", "found"] (spAddN 0) := by
  have no : ∀ vs H Q E, ¬ spAddN 0 vs H Q E := fun vs H Q E ⟨_, _, _, _, _, z, _⟩ => z
  exact ⟨fun vs H Q E h => absurd h (no vs H Q E), fun A outer s H args us vs Q E _ _ _ _ h => absurd h (no vs H Q E)⟩
theorem ok_add_names (F : Fun K "add_names" "add_names" s_add_names f fd) (n : Nat) (Dadd_names : Def P w K mg base CX0 (n + 2) "add_names" ["fact", "found"] (spAddN n)) (Dlisted_names : Def P w K mg base CX0 1 "listed_names" ["fact"] spListed)
    (Dparts_of : Def P w K mg base CX0 1 "parts_of" ["fact"] spParts) : FnOk P w K mg base CX0 (n + 3) f fd ["fact", "found"] (spAddN (n + 1)) := by
  refine F.ok sc_add_names (fun vs H Q E h => ?_) (fun cdv A outer s H vs Q E hr h => ?_)
  · obtain ⟨f, v, p, acc, rfl, _⟩ := h
    rfl
  obtain ⟨f, v, p, acc, rfl, hok, hf, hp, hz, k⟩ := h
  obtain ⟨hp10, hpk, hl10⟩ := hok.parts
  have esp := nm_split f
  have lsp : (nm f).length = (listF f).length + ((partsF f).flatMap nm).length := by rw [esp, List.length_append]
  refine ⟨_, (pss_cons (ps_for PassesOwn.never rfl (pi_tup (pe_callD Dlisted_names (hr.mono (by omega)) (by rfl) pass0 (pa_cons (pv 0) pa_nil))) (pg_name (i := 2) sc_add_names.nd rfl (Or.inl rfl)) (pss_one (ps_if (pt_cmpR notInS (pv 2) (pv 1) (by rfl)) (pss_one (ps_expr (pe_bm PySem.F.plainAttrs_list PySem.F.slot_list_append PySem.F.type_list_append mt_append (pv 1) (pa_cons (pv 2) pa_nil)))) pss_nil)))
    (pss_one (ps_for PassesOwn.never rfl (pi_tup (pe_callD Dparts_of (hr.mono (by omega)) (by rfl) pass0 (pa_cons (pv 0) pa_nil))) (pg_name (i := 3) sc_add_names.nd rfl (Or.inl rfl)) (pss_one (ps_expr (pe_callD Dadd_names (hr.mono (by omega)) (by rfl) pass0 (pa_cons (pv 3) (pa_cons (pv 1) pa_nil)))))))), ?_⟩
  refine ⟨_, rfl, f, v, rfl, hf, fun u H1 s1 hu => ?_⟩
  obtain ⟨lp, rfl, hlp⟩ := at_tS.mp hu
  have hp1 := s1 _ _ hp
  refine ⟨lp, rfl, ⟨_, SqT.of hlp⟩, for_tup (xs := (listF f).map V.str) (fun i σ H' => ∃ x y, σ = [some v, some (V.ref p), x, y] ∧ Kb p H1 H' ∧ H' p = some (.lst ((once acc ((listF f).take i)).map V.str)))
    ⟨none, none, rfl, Kb.refl _ _, by rw [List.take_zero]; exact hp1⟩ (fun i σ H' _ ⟨_, _, _, kb, _⟩ => SqT.of (kb.ts hp1 _ _ hlp)) ?_ ?_⟩
  · rintro i z σ H' hz' ⟨x, y, rfl, kb, hH⟩
    obtain ⟨nme, hn, rfl⟩ : ∃ nme, (listF f)[i]? = some nme ∧ z = V.str nme := by
      rw [List.getElem?_map] at hz'
      cases e : (listF f)[i]? with
      | none => rw [e] at hz'; cases hz'
      | some q => rw [e] at hz'; exact ⟨q, rfl, (Option.some.inj hz').symm⟩
    have e1 := take_succ hn
    refine ⟨_, rfl, _, rfl, nme, p, _, rfl, rfl, .inl hH, _, rfl, ?_⟩
    by_cases c : nme ∈ once acc ((listF f).take i)
    · refine ifF (by rw [decide_eq_true c]; rfl) ?_
      refine ⟨_, y, rfl, kb, ?_⟩
      rw [e1, once_snoc, if_pos c]
      exact hH
    · refine ifT (by rw [decide_eq_false c]; rfl) ?_
      have hle := once_len ((listF f).take i) acc
      have hti : ((listF f).take i).length ≤ (listF f).length := by rw [List.length_take]; omega
      refine ⟨_, rfl, .inl ⟨rfl, _, SqL.of hH⟩, _, rfl, p, _, _, rfl, rfl, hH, small_line (by rw [List.length_map]; omega), ?_⟩
      refine ⟨_, y, rfl, kb.trans (Kb.put _ _ _), ?_⟩
      rw [upd_same, e1, once_snoc, if_neg c, List.map_append]
      rfl
  · rintro σ H2 ⟨x, y, rfl, kb, hH⟩
    rw [List.length_map, List.take_length] at hH
    have ts2 : TS H H2 := (TS.of s1).trans (kb.ts hp1)
    refine ⟨_, rfl, f, v, rfl, hf.mono ts2, fun u2 H3 s3 hu2 => ?_⟩
    obtain ⟨pp, pvs, rfl, hpp, hpv⟩ := hu2
    have hH3 := s3 _ _ hH
    have plen : pvs.length = (partsF f).length := by rw [hpv.len, List.length_map]
    refine ⟨pp, rfl, ⟨_, SqT.of hpp⟩, for_tup (xs := pvs) (fun i σ H' => ∃ x y, σ = [some v, some (V.ref p), x, y] ∧ Kb p H3 H' ∧ H' p = some (.lst ((once acc (listF f ++ ((partsF f).take i).flatMap nm)).map V.str)))
      ⟨_, _, rfl, Kb.refl _ _, by rw [List.take_zero, List.flatMap_nil, List.append_nil]; exact hH3⟩ (fun i σ H' _ ⟨_, _, _, kb, _⟩ => SqT.of (kb.ts hH3 _ _ hpp)) ?_ ?_⟩
    · rintro i z σ H' hz' ⟨x, y, rfl, kb, hH⟩
      obtain ⟨g, hg, hat⟩ := hpv.getE hz'
      refine ⟨_, rfl, _, rfl, g, z, p, _, rfl, hpk g (List.mem_of_getElem? hg), hat.mono (kb.ts hH3), hH, ?_, fun H4 kb4 h4 => ?_⟩
      · have h1 := once_len (listF f ++ ((partsF f).take i).flatMap nm) acc
        have h2 := flat_take nm (partsF f) (i + 1)
        rw [take_cat nm hg, List.length_append] at h2
        rw [List.length_append] at h1
        omega
      · refine ⟨_, _, rfl, kb.trans kb4, ?_⟩
        rw [take_cat nm hg, ← List.append_assoc, once_append]
        exact h4
    · rintro σ H4 ⟨x, y, rfl, kb4, hH4⟩
      rw [plen, List.take_length, ← esp] at hH4
      exact k _ (((Kb.of s1).trans kb).trans ((Kb.of s3).trans kb4)) hH4
theorem ok_names_of (F : Fun K "names_of" "names_of" s_names_of f fd) (B : Blt mg) (Dadd_names : Def P w K mg base CX0 6 "add_names" ["fact", "found"] (spAddN 4)) : FnOk P w K mg base CX0 7 f fd ["fact"] spNames := by
  refine F.ok sc_names_of (fun vs H Q E h => ?_) (fun cdv A outer s H vs Q E hr h => ?_)
  · obtain ⟨f, v, rfl, _⟩ := h
    rfl
  obtain ⟨f, v, rfl, hok, hf, k⟩ := h
  have hlen := nm_len 4 f hok
  refine ⟨_, (pss_cons (ps_set (i := 1) sc_names_of.nd rfl (Or.inl rfl) (pe_lst pa_nil))
    (pss_cons (ps_expr (pe_callD Dadd_names (hr.mono (by omega)) (by rfl) pass0 (pa_cons (pv 0) (pa_cons (pv 1) pa_nil))))
    (pss_one (ps_ret (pe_callTy cr_tuple (by rfl) B.tuple (by decide +kernel) (pa_cons (pv 1) pa_nil)))))), ?_⟩
  refine ⟨Nat.zero_le _, fun p hp => ?_⟩
  have s1 := same_new hp (.lst [])
  refine ⟨_, rfl, _, rfl, f, v, p, [], rfl, hok, hf.mono (.of s1), upd_same, by simpa using (by omega), fun H2 kb hH => ?_⟩
  have s2 : Same H H2 := kb.same s1 hp
  refine ⟨_, rfl, p, _, rfl, hH, fun l hl => ?_⟩
  exact k _ _ (s2.trans (same_new hl _)) (at_tup Ats.of upd_same)
theorem holds_none : FnOk P w K mg base CX0 1 f fd ["fact", "committed"] (spHolds 0) := by
  have no : ∀ vs H Q E, ¬ spHolds 0 vs H Q E := fun vs H Q E ⟨_, _, _, _, _, z, _⟩ => z
  exact ⟨fun vs H Q E h => absurd h (no vs H Q E), fun A outer s H args us vs Q E _ _ _ _ h => absurd h (no vs H Q E)⟩
/-- the truth values of the parts -/
theorem bls_of {H : Hp} (g : Fs → Bool) : ∀ {fs : List Fs} {ys : List V}, Ats H (fs.filterMap fun f => some (T.b (g f))) ys → ys = (fs.map g).map V.bl
  | [], ys, h => h
  | f :: r, ys, h => by
    obtain ⟨v, us, rfl, h1, h2⟩ := h
    rw [show v = V.bl (g f) from h1, bls_of g h2] <;> rfl
theorem ok_holds (F : Fun K "holds" "holds" s_holds f fd) (B : Blt mg) (n : Nat) (Dholds : Def P w K mg base CX0 (n + 1) "holds" ["fact", "committed"] (spHolds n)) : FnOk P w K mg base CX0 (n + 2) f fd ["fact", "committed"] (spHolds (n + 1)) := by
  refine F.ok sc_holds (fun vs H Q E h => ?_) (fun cdv A outer s H vs Q E hr h => ?_)
  · obtain ⟨f, c, v, u, rfl, _⟩ := h
    rfl
  obtain ⟨f, cm, v, u, rfl, hok, hf, hc, k⟩ := h
  obtain ⟨a, us, rfl, ha, hus⟩ := at_tF hf
  obtain ⟨ca, rfl, hca⟩ := at_tS.mp hc
  refine ⟨_, (pss_cons (ps_set (i := 2) sc_holds.nd rfl (Or.inl rfl) (pe_ix ixT0 (pv 0) pe_int (fun _ _ => rfl)))
    (pss_cons (ps_if (pt_cmpR op_eq (pv 2) pe_str (nomark _)) (pss_one (ps_ret (pe_cmpR inS (pe_ix ixT0 (pv 0) pe_int (fun _ _ => rfl)) (pv 1) (by rfl)))) pss_nil)
    (pss_cons (ps_if (pt_cmpR op_eq (pv 2) pe_str (nomark _)) (pss_one (ps_ret (pe_cmpR op_eq (pe_callB cr_len (by rfl) B.len (by decide +kernel) (pa_cons (pe_lc (own := [("name", 3)]) (g := (gName 3)) rfl sc_holds.nd (pi_tup (pe_ix ixT0 (pv 0) pe_int (fun _ _ => rfl))) (blkOk_by (own := [("name", 3)]) (N := n_holds) (sc := defScope s_holds) (by decide +kernel)) (fun _ _ _ _ _ => (pg_name (i := 3) sc_holds.nd rfl (Or.inl rfl))) (fun _ _ _ _ _ => (pts_one (pt_cmpR inS (pv 3) (pv 1) (by rfl)))) (fun _ _ _ _ _ => (pv 3))) pa_nil)) pe_int (nomark _)))) pss_nil)
    (pss_cons (ps_if (pt_cmpR op_eq (pv 2) pe_str (nomark _)) (pss_one (ps_ret (pe_not (pe_callD Dholds (hr.mono (by omega)) (by rfl) pass0 (pa_cons (pe_ix ixT0 (pv 0) pe_int (fun _ _ => rfl)) (pa_cons (pv 1) pa_nil)))))) pss_nil)
    (pss_cons (ps_if (pt_cmpR op_eq (pv 2) pe_str (nomark _)) (pss_one (ps_ret (pe_callB (cr_all0 rfl) (by rfl) B.all (by decide +kernel) (pa_cons (pe_lc (own := [("part", 4)]) (g := (gName 4)) rfl sc_holds.nd (pi_tup (pe_ix ixT0 (pv 0) pe_int (fun _ _ => rfl))) (blkOk_by (own := [("part", 4)]) (N := n_holds) (sc := defScope s_holds) (by decide +kernel)) (fun _ _ _ _ _ => (pg_name (i := 4) sc_holds.nd rfl (Or.inl rfl))) (fun _ _ _ _ _ => pts_nil) (fun _ _ _ _ _ => (pe_callD Dholds (hr.mono (by omega)) (by rfl) pass0 (pa_cons (pv 4) (pa_cons (pv 1) pa_nil))))) pa_nil)))) pss_nil)
    (pss_cons (ps_if (pt_cmpR op_eq (pv 2) pe_str (nomark _)) (pss_one (ps_ret (pe_callB (cr_any0 rfl) (by rfl) B.any (by decide +kernel) (pa_cons (pe_lc (own := [("part", 4)]) (g := (gName 4)) rfl sc_holds.nd (pi_tup (pe_ix ixT0 (pv 0) pe_int (fun _ _ => rfl))) (blkOk_by (own := [("part", 4)]) (N := n_holds) (sc := defScope s_holds) (by decide +kernel)) (fun _ _ _ _ _ => (pg_name (i := 4) sc_holds.nd rfl (Or.inl rfl))) (fun _ _ _ _ _ => pts_nil) (fun _ _ _ _ _ => (pe_callD Dholds (hr.mono (by omega)) (by rfl) pass0 (pa_cons (pv 4) (pa_cons (pv 1) pa_nil))))) pa_nil)))) pss_nil)
    (pss_cons (ps_if (pt_cmpR op_eq (pv 2) pe_str (nomark _)) (pss_one (ps_ret (pe_or (pe_callD Dholds (hr.mono (by omega)) (by rfl) pass0 (pa_cons (pe_ix ixT0 (pv 0) pe_int (fun _ _ => rfl)) (pa_cons (pv 1) pa_nil))) (pe_one (pe_not (pe_callD Dholds (hr.mono (by omega)) (by rfl) pass0 (pa_cons (pe_ix ixT0 (pv 0) pe_int (fun _ _ => rfl)) (pa_cons (pv 1) pa_nil)))))))) pss_nil)
    (pss_one (ps_ret (pe_cmpR op_eq (pv 2) pe_str (nomark _))))))))))), ?_⟩
  refine ⟨_, rfl, a, _, 0, _, rfl, rfl, ha, at0, ?_⟩
  refine ⟨_, rfl, rfl, _, rfl, ?_⟩
  show (if decide (V.str (wK (kd f)) = V.str "commits") = true then _ else _)
  rw [is_com]
  refine ite2 (fun c => ?_) (fun c => ?_)
  · have c := of_decide_eq_true c
    obtain ⟨nme, rfl⟩ := kd_com c
    obtain ⟨x, r, rfl, hx, _⟩ := hus
    obtain rfl : x = V.str nme := hx
    exact ⟨_, rfl, a, _, 1, _, rfl, rfl, ha, at1, _, rfl, nme, ca, cm, rfl, rfl, .inr hca, k _ (Same.refl H)⟩
  have c1 := of_decide_eq_false (Bool.eq_false_iff.mpr c)
  clear c
  refine ⟨_, rfl, rfl, _, rfl, ?_⟩
  show (if decide (V.str (wK (kd f)) = V.str "one of") = true then _ else _)
  rw [is_one]
  refine ite2 (fun c => ?_) (fun c => ?_)
  · have c := of_decide_eq_true c
    obtain ⟨ns, rfl⟩ := kd_one c
    obtain ⟨x, r, rfl, hx, _⟩ := hus
    obtain ⟨np, rfl, hnp⟩ := at_tS.mp hx
    have hl : ns.length ≤ 10 := hok
    refine ⟨_, rfl, a, _, 1, _, rfl, rfl, ha, at1, np, rfl, ⟨_, SqT.of hnp⟩, fun D hD => lcT (cs := ns) T.s (fmIf (fun x => decide (x ∈ cm)) T.s) hnp Ats.of (by omega) hD (fun x hx => ?_) fun H2 ys s2 hys hat => ?_⟩
    · intro v H' hv s' Qy Qn ky kn
      obtain rfl : v = V.str x := hv
      refine ⟨rfl, ?_⟩
      refine ⟨_, rfl, _, rfl, x, ca, cm, rfl, rfl, .inr (s' _ _ hca), _, rfl, ?_⟩
      by_cases hm : x ∈ cm
      · exact ifT (decide_eq_true hm) ⟨_, rfl, ky (T.s x) _ _ (fm_yes (decide_eq_true hm)) (Same.refl _) rfl⟩
      · exact ifF (decide_eq_false hm) (kn _ (fm_no (decide_eq_false hm)) (Same.refl _))
    · refine ⟨D, ys, rfl, .inl hys, rfl, ?_⟩
      have e : ys.length = (ns.filter fun x => decide (x ∈ cm)).length := by
        rw [hat.len, fm_if, List.length_map]
      have e2 : decide (V.int (ys.length : Int) = V.int 1) = ev (K49.F.one ns) fun x => decide (x ∈ cm) := by
        show _ = decide ((ns.filter fun x => decide (x ∈ cm)).length = 1)
        rw [← e, dec_int]
        by_cases h : ys.length = 1
        · rw [h]; rfl
        · rw [decide_eq_false h]
          exact beq_eq_false_iff_ne.mpr (by omega)
      show Q (.bl (decide (V.int (ys.length : Int) = V.int 1))) H2
      rw [e2]
      exact k _ s2
  have c2 := of_decide_eq_false (Bool.eq_false_iff.mpr c)
  clear c
  refine ⟨_, rfl, rfl, _, rfl, ?_⟩
  show (if decide (V.str (wK (kd f)) = V.str "not") = true then _ else _)
  rw [is_nt]
  refine ite2 (fun c => ?_) (fun c => ?_)
  · have c := of_decide_eq_true c
    obtain ⟨g, rfl⟩ := kd_nt c
    obtain ⟨x, r, rfl, hx, _⟩ := hus
    refine ⟨_, rfl, a, _, 1, x, rfl, rfl, ha, at1, _, rfl, g, cm, x, _, rfl, hok, hx, hc, fun H2 s2 => ⟨_, rfl, k _ s2⟩⟩
  have c3 := of_decide_eq_false (Bool.eq_false_iff.mpr c)
  clear c
  refine ⟨_, rfl, rfl, _, rfl, ?_⟩
  show (if decide (V.str (wK (kd f)) = V.str "and") = true then _ else _)
  rw [is_an]
  refine ite2 (fun c => ?_) (fun c => ?_)
  · have c := of_decide_eq_true c
    obtain ⟨fs, rfl⟩ := kd_an c
    obtain ⟨x, r, rfl, hx, _⟩ := hus
    obtain ⟨np, nvs, rfl, hnp, hnv⟩ := hx
    rw [tFs_map] at hnv
    have hl : fs.length ≤ 10 := hok.1
    refine ⟨_, rfl, a, _, 1, _, rfl, rfl, ha, at1, np, rfl, ⟨_, SqT.of hnp⟩, fun D hD => lcT (cs := fs) tF (fun g => some (T.b (ev g fun x => decide (x ∈ cm)))) hnp hnv (by omega) hD (fun g hg => ?_) fun H2 ys s2 hys hat => ?_⟩
    · intro v H' hv s' Qy Qn ky kn
      refine ⟨rfl, ?_⟩
      exact ⟨_, rfl, _, rfl, g, cm, v, _, rfl, hok.2 g hg, hv, hc.mono (.of s'), fun H3 s3 => ky (.b _) _ _ rfl s3 rfl⟩
    · refine ⟨D, _, rfl, by rw [hys, bls_of _ hat], ?_⟩
      have e : ((fs.map fun g => ev g fun x => decide (x ∈ cm)).all id) = ev (K49.F.an fs) fun x => decide (x ∈ cm) := by
        show _ = evA fs _
        rw [evA_all, List.all_map]
        rfl
      rw [e]
      exact k _ s2
  have c4 := of_decide_eq_false (Bool.eq_false_iff.mpr c)
  clear c
  refine ⟨_, rfl, rfl, _, rfl, ?_⟩
  show (if decide (V.str (wK (kd f)) = V.str "or") = true then _ else _)
  rw [is_oo]
  refine ite2 (fun c => ?_) (fun c => ?_)
  · have c := of_decide_eq_true c
    obtain ⟨fs, rfl⟩ := kd_oo c
    obtain ⟨x, r, rfl, hx, _⟩ := hus
    obtain ⟨np, nvs, rfl, hnp, hnv⟩ := hx
    rw [tFs_map] at hnv
    have hl : fs.length ≤ 10 := hok.1
    refine ⟨_, rfl, a, _, 1, _, rfl, rfl, ha, at1, np, rfl, ⟨_, SqT.of hnp⟩, fun D hD => lcT (cs := fs) tF (fun g => some (T.b (ev g fun x => decide (x ∈ cm)))) hnp hnv (by omega) hD (fun g hg => ?_) fun H2 ys s2 hys hat => ?_⟩
    · intro v H' hv s' Qy Qn ky kn
      refine ⟨rfl, ?_⟩
      exact ⟨_, rfl, _, rfl, g, cm, v, _, rfl, hok.2 g hg, hv, hc.mono (.of s'), fun H3 s3 => ky (.b _) _ _ rfl s3 rfl⟩
    · refine ⟨D, _, rfl, by rw [hys, bls_of _ hat], ?_⟩
      have e : ((fs.map fun g => ev g fun x => decide (x ∈ cm)).any id) = ev (K49.F.oo fs) fun x => decide (x ∈ cm) := by
        show _ = evO fs _
        rw [evO_any, List.any_map]
        rfl
      rw [e]
      exact k _ s2
  have c5 := of_decide_eq_false (Bool.eq_false_iff.mpr c)
  clear c
  refine ⟨_, rfl, rfl, _, rfl, ?_⟩
  show (if decide (V.str (wK (kd f)) = V.str "implies") = true then _ else _)
  rw [is_im]
  refine ite2 (fun c => ?_) (fun c => ?_)
  · have c := of_decide_eq_true c
    obtain ⟨l, r, rfl⟩ := kd_im c
    obtain ⟨x, us, rfl, hx, y, us2, rfl, hy, _⟩ := hus
    refine ⟨_, rfl, a, _, 2, y, rfl, rfl, ha, at2, _, rfl, r, cm, y, _, rfl, hok.2, hy, hc, fun H2 s2 => ⟨_, rfl, ?_⟩⟩
    have eim : ev (K49.F.im l r) (fun x => decide (x ∈ cm)) = (ev r (fun x => decide (x ∈ cm)) || !ev l fun x => decide (x ∈ cm)) := rfl
    refine ite2 (fun e => ?_) (fun e => ?_)
    · have q := k _ s2
      rw [eim, e] at q
      exact q
    · have e : ev r (fun x => decide (x ∈ cm)) = false := Bool.eq_false_iff.mpr e
      refine ⟨_, rfl, a, _, 1, x, rfl, rfl, s2 _ _ ha, at1, _, rfl, l, cm, x, _, rfl, hok.1, hx.mono (.of s2), hc.mono (.of s2), fun H3 s3 => ⟨_, rfl, ?_⟩⟩
      have q := k _ (s2.trans s3)
      rw [eim, e] at q
      exact q
  have c6 := of_decide_eq_false (Bool.eq_false_iff.mpr c)
  clear c
  refine ⟨_, rfl, rfl, ?_⟩
  show Q (.bl (decide (V.str (wK (kd f)) = V.str "true"))) H
  rw [is_tt]
  have q := k _ (Same.refl H)
  have e : (ev f fun x => decide (x ∈ cm)) = decide (kd f = .tt) := by
    cases f <;> first | rfl | simp [kd] at c1 c2 c3 c4 c5 c6
  rw [e] at q
  exact q
end
end K49
namespace K49
open PySem PySem.Spec PyProof.Rows L2
abbrev s_all_outcomes : Stmt := top 12
abbrev n_all_outcomes : List PySem.Str := ["names", "found", "name", "outcome"]
theorem sc_all_outcomes : FnScope n_all_outcomes ["names"] (defScope s_all_outcomes) := ⟨rfl, rfl, rfl, by decide +kernel, rfl, by decide +kernel, by decide +kernel⟩
abbrev s_restricted : Stmt := top 13
abbrev n_restricted : List PySem.Str := ["outcome", "names", "name"]
theorem sc_restricted : FnScope n_restricted ["outcome", "names"] (defScope s_restricted) := ⟨rfl, rfl, rfl, by decide +kernel, rfl, by decide +kernel, by decide +kernel⟩
abbrev s_committed_names : Stmt := top 14
abbrev n_committed_names : List PySem.Str := ["decided", "name", "commits"]
theorem sc_committed_names : FnScope n_committed_names ["decided"] (defScope s_committed_names) := ⟨rfl, rfl, rfl, by decide +kernel, rfl, by decide +kernel, by decide +kernel⟩
abbrev s_mention : Stmt := top 15
abbrev n_mention : List PySem.Str := ["known", "names", "decided", "undecided", "possible", "old", "fresh", "merged", "before", "outcomes", "name", "commits", "outcome"]
theorem sc_mention : FnScope n_mention ["known", "names"] (defScope s_mention) := ⟨rfl, rfl, rfl, by decide +kernel, rfl, by decide +kernel, by decide +kernel⟩
abbrev s_keep : Stmt := top 16
abbrev n_keep : List PySem.Str := ["known", "outcomes", "decided", "undecided", "_", "pairs", "varying", "name", "count", "possible", "outcome"]
theorem sc_keep : FnScope n_keep ["known", "outcomes"] (defScope s_keep) := ⟨rfl, rfl, rfl, by decide +kernel, rfl, by decide +kernel, by decide +kernel⟩
/-! ### knowledge as data -/
abbrev Kw := Kn PySem.Str
def knT (k : Kw) : T := .t [.t (k.dec.map pairT), tS k.und, .t (k.pos.map tS)]
theorem at_knT {H : Hp} {k : Kw} {v : V} (h : At H (knT k) v) : ∃ (a d u p : Addr) (dv pv : List V), v = V.ref a ∧ H a = some (.tup [V.ref d, V.ref u, V.ref p]) ∧ H d = some (.tup dv) ∧ Ats H (k.dec.map pairT) dv ∧
    H u = some (.tup (k.und.map V.str)) ∧ H p = some (.tup pv) ∧ Ats H (k.pos.map tS) pv := by
  obtain ⟨a, vs, rfl, ha, x, r1, rfl, hx, y, r2, rfl, hy, z, r3, rfl, hz, h3⟩ := h
  obtain rfl : r3 = [] := h3
  obtain ⟨d, dv, rfl, hd, hdv⟩ := hx
  obtain ⟨u, rfl, hu⟩ := at_tS.mp hy
  obtain ⟨p, pv, rfl, hp, hpv⟩ := hz
  exact ⟨a, d, u, p, dv, pv, rfl, ha, hd, hdv, hu, hp, hpv⟩
def spAllO : Sp := fun vs H Q _ => ∃ (ns : List PySem.Str) (p : Addr), vs = [V.ref p] ∧ LT H p (ns.map V.str) ∧ ns.length ≤ 6 ∧ ∀ (q : Addr) (ys : List V) H', Same H H' → H' q = some (.lst ys) → Ats H' ((allO ns).map tS) ys → Q (.ref q) H'
def spRestr : Sp := fun vs H Q _ => ∃ (o ns : List PySem.Str) (v : V) (p : Addr), vs = [v, V.ref p] ∧ At H (tS o) v ∧ LT H p (ns.map V.str) ∧ o.length ≤ 100 ∧ ∀ (u : V) H', Same H H' → At H' (tS (restr ns o)) u → Q u H'
def spComm : Sp := fun vs H Q _ => ∃ (ps : List (PySem.Str × Bool)) (v : V), vs = [v] ∧ At H (.t (ps.map pairT)) v ∧ ps.length ≤ 100 ∧ ∀ (u : V) H', Same H H' → At H' (tS ((ps.filter (·.2)).map (·.1))) u → Q u H'
def spMention : Sp := fun vs H Q _ => ∃ (k : Kw) (ns : List PySem.Str) (v u : V), vs = [v, u] ∧ At H (knT k) v ∧ At H (tS ns) u ∧ ns.Nodup ∧ ns.length ≤ 100 ∧ k.dec.length ≤ 100 ∧ k.pos.length ≤ 100 ∧ k.und.length + (freshN leS k ns).length ≤ 6 ∧
  ∀ (r : V) H', Same H H' → At H' (knT (mention leS k ns)) r → Q r H'
def spKeep (C : Addr) : Sp := fun vs H Q E => ∃ (k : Kw) (os : List (List PySem.Str)) (v u : V), vs = [v, u] ∧ At H (knT k) v ∧ At H (.t (os.map tS)) u ∧ os.length ≤ 100 ∧ k.dec.length + k.und.length ≤ 100 ∧ (∀ o ∈ os, o.length ≤ 100) ∧
  (os.length = 0 → ∀ H', Same H H' → E (.ref C) none H') ∧ (os.length ≠ 0 → ∀ (r : V) H', Same H H' → At H' (knT (keepK leS k os)) r → Q r H')
def spLearn (C : Addr) : Sp := fun vs H Q E => ∃ (k : Kw) (f : Fs) (v u : V), vs = [v, u] ∧ At H (knT k) v ∧ At H (tF f) u ∧ FOk 4 f ∧ k.dec.length ≤ 40 ∧ k.pos.length ≤ 100 ∧ (once [] (nm f)).length ≤ 100 ∧ k.und.length + (freshN leS k (once [] (nm f))).length ≤ 6 ∧
  (learn leS k f = none → ∀ H', Same H H' → E (.ref C) none H') ∧ (∀ k', learn leS k f = some k' → ∀ (r : V) H', Same H H' → At H' (knT k') r → Q r H')
section
variable {P : Program} {w : World} {K : PySem.W.Frag} {mg : PySem.Str → Option Value} {base : Heap} {f : Addr} {fd : FuncData}
theorem pow6 {n : Nat} (h : n ≤ 6) : 2 ^ n ≤ 64 := Nat.le_trans (Nat.pow_le_pow_right (by decide) h) (by decide)
theorem ok_all_outcomes (F : Fun K "all_outcomes" "all_outcomes" s_all_outcomes f fd) (B : Blt mg) : FnOk P w K mg base CX0 1 f fd ["names"] spAllO := by
  refine F.ok sc_all_outcomes (fun vs H Q E h => ?_) (fun cdv A outer s H vs Q E hr h => ?_)
  · obtain ⟨ns, p, rfl, _⟩ := h
    rfl
  obtain ⟨ns, p, rfl, hp, h6, k⟩ := h
  refine ⟨_, (pss_cons (ps_set (i := 1) sc_all_outcomes.nd rfl (Or.inl rfl) (pe_lst (pa_cons (pe_tup pa_nil) pa_nil)))
    (pss_cons (ps_for PassesOwn.never rfl (pi_reversed (by rfl) B.reversed (pa_cons (pe_callTy cr_list (by rfl) B.list (by decide +kernel) (pa_cons (pv 0) pa_nil)) pa_nil)) (pg_name (i := 2) sc_all_outcomes.nd rfl (Or.inr rfl)) (pss_one (ps_set (i := 1) sc_all_outcomes.nd rfl (Or.inl rfl) (pe_op op_cat (pe_lc (own := [("outcome", 3)]) (g := (gName 3)) rfl sc_all_outcomes.nd (pi_list (pv 1)) (blkOk_by (own := [("outcome", 3)]) (N := n_all_outcomes) (sc := defScope s_all_outcomes) (by decide +kernel)) (fun _ _ _ _ _ => (pg_name (i := 3) sc_all_outcomes.nd rfl (Or.inl rfl))) (fun _ _ _ _ _ => pts_nil) (fun _ _ _ _ _ => (pe_op catA0 (pe_tup (pa_cons (pv 2) pa_nil)) (pv 3)))) (pv 1)))))
    (pss_one (ps_ret (pv 1))))), ?_⟩
  refine ⟨Nat.zero_le _, fun p0 hp0 => ⟨(by show 1 ≤ sizeLine; decide), fun p1 hp1 => ?_⟩⟩
  have s0 := same_new hp0 (.tup [])
  have s1 := s0.trans (same_new hp1 (.lst [V.ref p0]))
  have e0 : (upd (upd H p0 (.tup [])) p1 (.lst [V.ref p0])) p0 = some (.tup []) := same_new hp1 _ _ _ upd_same
  have e1 : (upd (upd H p0 (.tup [])) p1 (.lst [V.ref p0])) p1 = some (.lst [V.ref p0]) := upd_same
  generalize upd (upd H p0 (.tup [])) p1 (.lst [V.ref p0]) = H1 at s1 e0 e1 ⊢
  refine ⟨_, rfl, p, _, rfl, hp.mono s1, fun l hl => ?_⟩
  have s2 := s1.trans (same_new hl (.lst (ns.map V.str)))
  have e2 := same_new hl (.lst (ns.map V.str)) _ _ e1
  have e3 := same_new hl (.lst (ns.map V.str)) _ _ e0
  have el : (upd H1 l (.lst (ns.map V.str))) l = some (.lst (ns.map V.str)) := upd_same
  generalize upd H1 l (.lst (ns.map V.str)) = H2 at s2 e2 e3 el ⊢
  refine ⟨l, _, rfl, SqL.of el, RT.for_Itv (xs := ns.map V.str) (fun i σ H' => ∃ (q : Addr) (ys : List V) (x y : Option V), σ = [some (V.ref p), some (V.ref q), x, y] ∧ Same H2 H' ∧ H' q = some (.lst ys) ∧ Ats H' ((allO (ns.drop (ns.length - i))).map tS) ys)
    ⟨p1, _, none, none, rfl, Same.refl _, e2, ?_⟩ (fun i σ H' ⟨_, _, _, _, _, s, _⟩ => SqL.of (s _ _ el)) ?_ ?_⟩
  · rw [Nat.sub_zero, List.drop_length]
    exact .cons (at_tup (ts := []) .nil e3) .nil
  · rintro i v σ H' hi hv ⟨q, ys, x, y, rfl, s3, hq, hat⟩
    rw [List.length_map] at hi hv
    obtain ⟨nme, hn, rfl⟩ : ∃ nme, ns[ns.length - 1 - i]? = some nme ∧ v = V.str nme := by
      rw [List.getElem?_map] at hv
      cases e : ns[ns.length - 1 - i]? with
      | none => rw [e] at hv; cases hv
      | some z => rw [e] at hv; exact ⟨z, rfl, (Option.some.inj hv).symm⟩
    have ed : ns.drop (ns.length - (i + 1)) = nme :: ns.drop (ns.length - i) := by
      have hlt : ns.length - (i + 1) < ns.length := by omega
      rw [List.drop_eq_getElem_cons hlt]
      have e1 : ns.length - (i + 1) + 1 = ns.length - i := by omega
      have e2 : ns.length - (i + 1) = ns.length - 1 - i := by omega
      rw [e1]
      congr 1
      rw [List.getElem?_eq_some_iff] at hn
      obtain ⟨_, hn⟩ := hn
      rw [← hn]
      congr 1
    have hlen : (allO (ns.drop (ns.length - i))).length ≤ 64 := by
      rw [allO_length]
      exact pow6 (by rw [List.length_drop]; omega)
    have hyl : ys.length ≤ 64 := by rw [hat.len, List.length_map]; exact hlen
    refine ⟨_, rfl, q, rfl, ⟨_, SqL.of hq⟩, fun D hD => lcL (cs := allO (ns.drop (ns.length - i))) tS (fun o => some (tS (nme :: o))) hq hat (by omega) hD (fun o ho => ?_) fun H4 zs s4 hz hzat => ?_⟩
    · intro v H5 hv s5 Qy Qn ky kn
      obtain ⟨oa, rfl, hoa⟩ := at_tS.mp hv
      refine ⟨rfl, ?_⟩
      refine ⟨_, rfl, (by show 1 ≤ sizeLine; decide), fun t ht => ⟨_, rfl, t, oa, _, _, rfl, rfl, upd_same, same_new ht _ _ _ hoa, ?_, fun r H6 s6 hr6 => ?_⟩⟩
      · have hsl := mem_allO.mp ho
        have := hsl.length_le
        rw [List.length_drop] at this
        rw [List.length_map, List.length_singleton]
        exact Nat.le_of_lt (small_line (by omega))
      · exact ky (tS (nme :: o)) _ _ rfl ((same_new ht _).trans s6) (at_tS.mpr ⟨r, rfl, hr6⟩)
    · rw [fm_map] at hzat
      have hzl : zs.length ≤ 64 := by rw [hzat.len, List.length_map]; exact hlen
      refine ⟨_, rfl, D, q, zs, ys, rfl, rfl, hz, s4 _ _ hq, Nat.le_of_lt (small_line (by omega)), fun r hr' => ?_⟩
      have s6 := same_new hr' (.lst (zs ++ ys))
      refine ⟨r, _, _, y, rfl, s3.trans (s4.trans s6), upd_same, ?_⟩
      rw [ed, allO_cons, List.map_append, List.map_map]
      exact (hzat.mono (.of s6)).app (hat.mono (.of (s4.trans s6)))
  · rintro σ H' ⟨q, ys, x, y, rfl, s3, hq, hat⟩
    rw [List.length_map, Nat.sub_self, List.drop_zero] at hat
    exact ⟨_, rfl, k q ys H' (s2.trans s3) hq hat⟩
theorem ok_restricted (F : Fun K "restricted" "restricted" s_restricted f fd) (B : Blt mg) : FnOk P w K mg base CX0 1 f fd ["outcome", "names"] spRestr := by
  refine F.ok sc_restricted (fun vs H Q E h => ?_) (fun cdv A outer s H vs Q E hr h => ?_)
  · obtain ⟨o, ns, v, p, rfl, _⟩ := h
    rfl
  obtain ⟨o, ns, v, p, rfl, hv, hp, hz, k⟩ := h
  obtain ⟨oa, rfl, hoa⟩ := at_tS.mp hv
  refine ⟨_, (pss_one (ps_ret (pe_callTy cr_tuple (by rfl) B.tuple (by decide +kernel) (pa_cons (pe_lc (own := [("name", 2)]) (g := (gName 2)) rfl sc_restricted.nd (pi_tup (pv 0)) (blkOk_by (own := [("name", 2)]) (N := n_restricted) (sc := defScope s_restricted) (by decide +kernel)) (fun _ _ _ _ _ => (pg_name (i := 2) sc_restricted.nd rfl (Or.inl rfl))) (fun _ _ _ _ _ => (pts_one (pt_cmpR inS (pv 2) (pv 1) (by rfl)))) (fun _ _ _ _ _ => (pv 2))) pa_nil)))), ?_⟩
  refine ⟨_, rfl, oa, rfl, ⟨_, SqT.of hoa⟩, fun D hD => lcT (cs := o) T.s (fmIf (fun x => decide (x ∈ ns)) T.s) hoa Ats.of (by omega) hD (fun x hx => ?_) fun H2 ys s2 hys hat => ?_⟩
  · intro v H' hv s' Qy Qn ky kn
    obtain rfl : v = V.str x := hv
    refine ⟨rfl, ⟨_, rfl, _, rfl, x, p, ns, rfl, rfl, hp.mono s', _, rfl, ?_⟩⟩
    by_cases hm : x ∈ ns
    · exact ifT (decide_eq_true hm) ⟨_, rfl, ky (T.s x) _ _ (fm_yes (decide_eq_true hm)) (Same.refl _) rfl⟩
    · exact ifF (decide_eq_false hm) (kn _ (fm_no (decide_eq_false hm)) (Same.refl _))
  · rw [fm_if] at hat
    refine ⟨D, ys, rfl, hys, fun l hl => ?_⟩
    exact k _ _ (s2.trans (same_new hl _)) (at_tup (hat.mono (.of (same_new hl _))) upd_same)
theorem ok_committed_names (F : Fun K "committed_names" "committed_names" s_committed_names f fd) (B : Blt mg) : FnOk P w K mg base CX0 1 f fd ["decided"] spComm := by
  refine F.ok sc_committed_names (fun vs H Q E h => ?_) (fun cdv A outer s H vs Q E hr h => ?_)
  · obtain ⟨ps, v, rfl, _⟩ := h
    rfl
  obtain ⟨ps, v, rfl, ⟨d, dv, rfl, hd, hdv⟩, hz, k⟩ := h
  refine ⟨_, (pss_one (ps_ret (pe_callTy cr_tuple (by rfl) B.tuple (by decide +kernel) (pa_cons (pe_lc (own := [("name", 1), ("commits", 2)]) (g := (gTup0 2 (gCons (gName 1) (gCons (gName 2) gNil)))) rfl sc_committed_names.nd (pi_tup (pv 0)) (blkOk_by (own := [("name", 1), ("commits", 2)]) (N := n_committed_names) (sc := defScope s_committed_names) (by decide +kernel)) (fun _ _ _ _ _ => (pg_tup0 rfl (pgs_cons (pg_name (i := 1) sc_committed_names.nd rfl (Or.inl rfl)) (pgs_cons (pg_name (i := 2) sc_committed_names.nd rfl (Or.inl rfl)) pgs_nil)))) (fun _ _ _ _ _ => (pts_one (pt_val (pv 2)))) (fun _ _ _ _ _ => (pv 1))) pa_nil)))), ?_⟩
  refine ⟨_, rfl, d, rfl, ⟨_, SqT.of hd⟩, fun D hD => lcT (cs := ps) pairT (fmIf (·.2) fun p => T.s p.1) hd hdv (by omega) hD (fun p hp => ?_) fun H2 ys s2 hys hat => ?_⟩
  · intro v H' hv s' Qy Qn ky kn
    obtain ⟨t, rfl, ht⟩ := at_pair hv
    refine ⟨t, _, rfl, ht, rfl, _, _, rfl, _, _, rfl, rfl, rfl, ?_⟩
    refine ⟨_, rfl, _, rfl, ?_⟩
    refine ite2 (fun c => ?_) (fun c => ?_)
    · exact ⟨_, rfl, ky (T.s p.1) _ _ (fm_yes c) (Same.refl _) rfl⟩
    · exact kn _ (fm_no (Bool.eq_false_iff.mpr c)) (Same.refl _)
  · rw [fm_if] at hat
    refine ⟨D, ys, rfl, hys, fun l hl => ?_⟩
    have z := at_tup (hat.mono (.of (same_new hl (.tup ys)))) upd_same
    have e : ((ps.filter (·.2)).map (·.1)).map T.s = (ps.filter (·.2)).map fun p => T.s p.1 := by
      rw [List.map_map]
      rfl
    refine k _ _ (s2.trans (same_new hl _)) ?_
    show At _ (.t (((ps.filter (·.2)).map (·.1)).map T.s)) _
    rw [e]
    exact z
theorem srt_eq {l l' : List PySem.Str} (p : l.Perm l') : srt leS l = srt leS l' := srt_of leS_ord ((srt_perm l).trans p) (srt_asc leS_ord l)
theorem notin_take {l : List PySem.Str} (d : l.Nodup) {i : Nat} {x : PySem.Str} (h : l[i]? = some x) : x ∉ l.take i := fun hm => by
  have e := take_succ h
  have d2 : (l.take (i + 1)).Nodup := List.Pairwise.sublist (List.take_sublist _ _) d
  rw [e, List.nodup_append] at d2
  exact d2.2.2 x hm x (List.mem_singleton.mpr rfl) rfl
theorem ok_mention (F : Fun K "mention" "mention" s_mention f fd) (B : Blt mg) {t6 : Tok} (mgMOST_UNDECIDED : mg "MOST_UNDECIDED" = some (.int 6 t6)) (Dall_outcomes : Def P w K mg base CX0 1 "all_outcomes" ["names"] spAllO) (Drestricted : Def P w K mg base CX0 1 "restricted" ["outcome", "names"] spRestr) :
    FnOk P w K mg base CX0 2 f fd ["known", "names"] spMention := by
  refine F.ok sc_mention (fun vs H Q E h => ?_) (fun cdv A outer s H vs Q E hr h => ?_)
  · obtain ⟨k, ns, v, u, rfl, _⟩ := h
    rfl
  obtain ⟨k, ns, v, u, rfl, hk, hns, nd, hn100, hd100, hp100, h6, kk⟩ := h
  obtain ⟨a, d, un, p, dv, pvs, rfl, ha, hd, hdv, hun, hp, hpv⟩ := at_knT hk
  obtain ⟨na, rfl, hna⟩ := at_tS.mp hns
  have hfr : (freshN leS k ns).length = (ns.filter fun x => !decide (x ∈ oldN k)).length := srt_length _
  refine ⟨_, (pss_cons (ps_asg (pv 0) (pg_tup0 rfl (pgs_cons (pg_name (i := 2) sc_mention.nd rfl (Or.inl rfl)) (pgs_cons (pg_name (i := 3) sc_mention.nd rfl (Or.inr rfl)) (pgs_cons (pg_name (i := 4) sc_mention.nd rfl (Or.inl rfl)) pgs_nil)))))
    (pss_cons (ps_set (i := 5) sc_mention.nd rfl (Or.inr rfl) (pe_op op_cat (pe_lc (own := [("name", 10), ("commits", 11)]) (g := (gTup0 2 (gCons (gName 10) (gCons (gName 11) gNil)))) rfl sc_mention.nd (pi_tup (pv 2)) (blkOk_by (own := [("name", 10), ("commits", 11)]) (N := n_mention) (sc := defScope s_mention) (by decide +kernel)) (fun _ _ _ _ _ => (pg_tup0 rfl (pgs_cons (pg_name (i := 10) sc_mention.nd rfl (Or.inl rfl)) (pgs_cons (pg_name (i := 11) sc_mention.nd rfl (Or.inl rfl)) pgs_nil)))) (fun _ _ _ _ _ => pts_nil) (fun _ _ _ _ _ => (pv 10))) (pe_callTy cr_list (by rfl) B.list (by decide +kernel) (pa_cons (pv 3) pa_nil))))
    (pss_cons (ps_set (i := 6) sc_mention.nd rfl (Or.inl rfl) (pe_callB (cr_sortSet hr rfl) (by rfl) B.sorted (by decide +kernel) (pa_cons (pe_scT (own := [("name", 10)]) (g := (gName 10)) rfl sc_mention.nd (pi_tup (pv 1)) (blkOk_by (own := [("name", 10)]) (N := n_mention) (sc := defScope s_mention) (by decide +kernel)) (fun _ _ _ _ _ => (pg_name (i := 10) sc_mention.nd rfl (Or.inl rfl))) (fun _ _ _ _ _ => (pts_one (pt_cmpR notInS (pv 10) (pv 5) (by rfl)))) (fun _ _ _ _ _ => (pv 10))) pa_nil)))
    (pss_cons (ps_if (pt_cmpR op_gt (pe_op op_add (pe_callB cr_len (by rfl) B.len (by decide +kernel) (pa_cons (pv 3) pa_nil)) (pe_callB cr_len (by rfl) B.len (by decide +kernel) (pa_cons (pv 6) pa_nil))) (pe_glob (v := V.int 6) rfl mgMOST_UNDECIDED ⟨_, rfl⟩) (nomark _)) (pss_one ps_never) pss_nil)
    (pss_cons (ps_set (i := 7) sc_mention.nd rfl (Or.inl rfl) (pe_callB cr_sortL (by rfl) B.sorted (by decide +kernel) (pa_cons (pe_op op_cat (pe_callTy cr_list (by rfl) B.list (by decide +kernel) (pa_cons (pv 3) pa_nil)) (pv 6)) pa_nil)))
    (pss_cons (ps_set (i := 8) sc_mention.nd rfl (Or.inr rfl) (pe_dcT hr.units0 (own := [("outcome", 12)]) (g := (gName 12)) rfl sc_mention.nd (pi_tup (pv 4)) (blkOk_by (own := [("outcome", 12)]) (N := n_mention) (sc := defScope s_mention) (by decide +kernel)) (fun _ _ _ _ _ => (pg_name (i := 12) sc_mention.nd rfl (Or.inl rfl))) (fun _ _ _ _ _ => pts_nil) (fun _ _ _ _ _ => (pv 12)) (fun _ _ _ _ _ => pe_bl)))
    (pss_cons (ps_setLc (i := 9) (own := [("outcome", 12)]) (g := (gName 12)) rfl sc_mention.nd rfl rfl (sw_true rfl rfl rfl (by decide +kernel)) (pi_list (pe_callD Dall_outcomes (hr.mono (by omega)) (by rfl) pass0 (pa_cons (pv 7) pa_nil))) (blkOk_by (own := [("outcome", 12)]) (N := n_mention) (sc := defScope s_mention) (by decide +kernel)) (fun _ _ _ _ _ => (pg_name (i := 12) sc_mention.nd rfl (Or.inl rfl))) (fun _ _ _ _ _ => (pts_one (pt_cmp (pc_din (hu_of hr) (pe_callD Drestricted (hr.mono (by omega)) (by rfl) pass0 (pa_cons (pv 12) (pa_cons (pv 3) pa_nil))) (pv 8))))) (fun _ _ _ _ _ => (pv 12)))
    (pss_one (ps_ret (pe_tup (pa_cons (pv 2) (pa_cons (pe_callTy cr_tuple (by rfl) B.tuple (by decide +kernel) (pa_cons (pv 7) pa_nil)) (pa_cons (pe_callTy cr_tuple (by rfl) B.tuple (by decide +kernel) (pa_cons (pv 9) pa_nil)) pa_nil))))))))))))), ?_⟩
  refine ⟨_, rfl, a, _, rfl, ha, rfl, _, _, rfl, _, _, rfl, _, _, rfl, rfl, ?_⟩
  -- old
  refine ⟨_, rfl, d, rfl, ⟨_, SqT.of hd⟩, fun D1 hD1 => lcT (cs := k.dec) pairT (fun p => some (T.s p.1)) hd hdv (by omega) hD1 (fun q hq => ?_) fun H1 ys s1 hys hat => ?_⟩
  · intro v H' hv s' Qy Qn ky kn
    obtain ⟨t, rfl, ht⟩ := at_pair hv
    exact ⟨t, _, rfl, ht, rfl, _, _, rfl, _, _, rfl, rfl, rfl, _, rfl, ky (T.s q.1) _ _ rfl (Same.refl _) rfl⟩
  rw [fm_map] at hat
  have eys : ys = (k.dec.map (·.1)).map V.str := by
    refine (Ats.strs (H := H1)).mp ?_
    rw [List.map_map]
    exact hat
  subst eys
  have und6 : k.und.length ≤ 6 := by omega
  refine ⟨_, rfl, un, _, rfl, .inr (s1 _ _ hun), fun l1 hl1 => ?_⟩
  refine ⟨D1, l1, _, _, rfl, rfl, same_new hl1 _ _ _ hys, upd_same, ?_, fun q1 hq1 => ?_⟩
  · rw [List.length_map, List.length_map, List.length_map]
    exact Nat.le_of_lt (small_line (by omega))
  have s2 : Same H (upd (upd H1 l1 (.lst (k.und.map V.str))) q1 (.lst ((k.dec.map (·.1)).map V.str ++ k.und.map V.str))) := s1.trans ((same_new hl1 _).trans (same_new hq1 _))
  have eold : (upd (upd H1 l1 (.lst (k.und.map V.str))) q1 (.lst ((k.dec.map (·.1)).map V.str ++ k.und.map V.str))) q1 = some (.lst ((oldN k).map V.str)) := by
    rw [upd_same]
    unfold oldN
    rw [List.map_append]
  generalize upd (upd H1 l1 (.lst (k.und.map V.str))) q1 (.lst ((k.dec.map (·.1)).map V.str ++ k.und.map V.str)) = H2 at s2 eold ⊢
  clear hys hat hl1 hq1 s1
  -- fresh
  refine ⟨_, rfl, na, rfl, ⟨_, SqT.of (s2 _ _ hna)⟩, fun D2 hD2 => gc_tup (xs := ns.map V.str) (fun i H' => Same H2 H' ∧ H' D2 = some (SetS P w D2 ((ns.take i).filter fun x => !decide (x ∈ oldN k)).reverse))
    ⟨same_new hD2 _, by rw [upd_same, List.take_zero] <;> rfl⟩ (fun i H' _ ⟨s', _⟩ => SqT.of (s' _ _ (s2 _ _ hna))) ?_ ?_⟩
  · rintro i v H' hv ⟨s', hS⟩
    obtain ⟨x, hx, rfl⟩ : ∃ x, ns[i]? = some x ∧ v = V.str x := by
      rw [List.getElem?_map] at hv
      cases e : ns[i]? with
      | none => rw [e] at hv; cases hv
      | some z => rw [e] at hv; exact ⟨z, rfl, (Option.some.inj hv).symm⟩
    refine ⟨rfl, ⟨_, rfl, _, rfl, x, q1, _, rfl, rfl, .inl (s' _ _ eold), _, rfl, ?_⟩⟩
    by_cases hm : x ∈ oldN k
    · refine ifF (by rw [decide_eq_true hm]; rfl) ⟨s', ?_⟩
      rw [take_succ hx, List.filter_append, List.filter_cons_of_neg (by rw [decide_eq_true hm]; decide), List.filter_nil, List.append_nil]
      exact hS
    · refine ifT (by rw [decide_eq_false hm]; rfl) ⟨_, rfl, _, x, rfl, hS, fun z => ?_, ?_, ?_, ?_⟩
      · exact notin_take nd hx (List.mem_filter.mp (List.mem_reverse.mp z)).1
      · have h1 := List.length_filter_le (fun x => !decide (x ∈ oldN k)) (ns.take i)
        rw [List.length_take] at h1
        rw [List.length_reverse]
        omega
      · intro b o e
        rw [upd_ne (fun z => by rw [z, hD2] at e; cases e)]
        exact s' b o e
      · rw [upd_same, take_succ hx, List.filter_append, List.filter_cons_of_pos (by rw [decide_eq_false hm]; rfl), List.filter_nil, List.reverse_append]
        rfl
  rintro H3 ⟨s3, hS⟩
  rw [List.length_map, List.take_length] at hS
  refine ⟨D2, _, rfl, hS, ?_, ?_, fun q3 hq3 => ?_⟩
  · have h1 := List.length_filter_le (fun x => !decide (x ∈ oldN k)) ns
    rw [List.length_reverse]
    omega
  · exact (List.reverse_perm _).nodup_iff.mpr (nd.filter _)
  have efr : srt leS ((ns.filter fun x => !decide (x ∈ oldN k)).reverse) = freshN leS k ns := srt_eq (List.reverse_perm _)
  rw [efr]
  have s4 : Same H (upd H3 q3 (.lst ((freshN leS k ns).map V.str))) := s2.trans (s3.trans (same_new hq3 _))
  have eF : (upd H3 q3 (.lst ((freshN leS k ns).map V.str))) q3 = some (.lst ((freshN leS k ns).map V.str)) := upd_same
  generalize upd H3 q3 (.lst ((freshN leS k ns).map V.str)) = H4 at s4 eF ⊢
  -- no more than six
  refine ⟨_, rfl, un, _, rfl, .inr (s4 _ _ hun), _, rfl, q3, _, rfl, .inl eF, _, _, rfl, rfl, _, _, rfl, rfl, _, rfl, ?_⟩
  refine ifF (decide_eq_false ?_) ?_
  · rw [List.length_map, List.length_map]
    omega
  -- merged
  refine ⟨_, rfl, un, _, rfl, .inr (s4 _ _ hun), fun l2 hl2 => ⟨_, rfl, l2, q3, _, _, rfl, rfl, upd_same, same_new hl2 _ _ _ eF, ?_, fun q5 hq5 => ?_⟩⟩
  · rw [List.length_map, List.length_map]
    exact Nat.le_of_lt (small_line (by omega))
  refine ⟨q5, k.und ++ freshN leS k ns, rfl, by rw [upd_same, List.map_append], by rw [List.length_append]; omega, fun q6 hq6 => ?_⟩
  have s6 := s4.trans ((same_new hl2 (.lst (k.und.map V.str))).trans ((same_new hq5 (.lst (k.und.map V.str ++ (freshN leS k ns).map V.str))).trans (same_new hq6 (.lst ((srt leS (k.und ++ freshN leS k ns)).map V.str)))))
  generalize hM : srt leS (k.und ++ freshN leS k ns) = M at s6 ⊢
  have hML : M.length ≤ 6 := by rw [← hM, srt_length, List.length_append]; exact h6
  generalize hH6 : upd (upd (upd H4 l2 (.lst (k.und.map V.str))) q5 (.lst (k.und.map V.str ++ (freshN leS k ns).map V.str))) q6 (.lst (M.map V.str)) = H6 at s6 ⊢
  have eM : H6 q6 = some (.lst (M.map V.str)) := by rw [← hH6, upd_same]
  -- before
  refine ⟨_, rfl, p, rfl, ⟨_, SqT.of (s6 _ _ hp)⟩, fun D7 hD7 => gc_tup (xs := pvs) (h0 := fun _ => .dT []) (fun i H' => Same H6 H' ∧ ∃ kvs, H' D7 = some (.dT kvs) ∧ kvs.length ≤ i ∧ ∀ o : List PySem.Str, (valV kvs (txK o)).isSome = decide (o ∈ k.pos.take i))
    ⟨same_new hD7 _, [], upd_same, Nat.zero_le _, fun o => by rw [List.take_zero]; rfl⟩ (fun i H' _ ⟨s', _⟩ => SqT.of (s' _ _ (s6 _ _ hp))) ?_ ?_⟩
  · rintro i v H' hv ⟨s', kvs, hK, hl, hkv⟩
    obtain ⟨o, ho, hat⟩ := hpv.getE hv
    obtain ⟨oa, rfl, hoa⟩ := at_tS.mp (hat.mono (.of (s6.trans s')))
    have hi : i < k.pos.length := (List.getElem?_eq_some_iff.mp ho).1
    refine ⟨rfl, ⟨_, rfl, kvs, txK o, oa, rfl, by rw [txK_kV]; exact hoa, hK, small_line (by omega), ?_, putK kvs (txK o) (.bl true), upd_same, ?_, fun o' => ?_⟩⟩
    · intro b u e
      rw [upd_ne (fun z => by rw [z, hD7] at e; cases e)]
      exact s' b u e
    · have := length_putK kvs (txK o) (V.bl true)
      omega
    · rw [valV_put, take_succ ho]
      by_cases e : o' = o
      · rw [if_pos (by rw [e]), e]
        simp
      · rw [if_neg (fun z => e (txK_inj z)), hkv]
        refine decide_eq_decide.mpr ?_
        rw [List.mem_append, List.mem_singleton]
        exact ⟨.inl, fun z => z.resolve_right e⟩
  rintro H7 ⟨s7, kvs, hK, _, hkv⟩
  have elen : pvs.length = k.pos.length := by rw [hpv.len, List.length_map]
  rw [elen, List.take_length] at hkv
  have s7' := s6.trans s7
  -- outcomes
  refine ⟨_, rfl, M, q6, rfl, .inl (s7 _ _ eM), hML, fun q8 ov H8 s8 hq8 hov => ?_⟩
  have hAL : (allO M).length ≤ 64 := by rw [allO_length]; exact pow6 hML
  have s8' := s7'.trans s8
  refine ⟨q8, rfl, ⟨_, SqL.of hq8⟩, fun D9 hD9 => lcL (cs := allO M) tS (fmIf (fun o => decide (restr k.und o ∈ k.pos)) tS) hq8 hov (by omega) hD9 (fun o ho => ?_) fun H9 zs s9 hzs hzat => ?_⟩
  · intro v H' hv s' Qy Qn ky kn
    have ol : o.length ≤ 6 := Nat.le_trans (mem_allO.mp ho).length_le hML
    refine ⟨rfl, ⟨_, rfl, _, rfl, o, k.und, v, un, rfl, hv, .inr (s' _ _ (s8' _ _ hun)), by omega, fun r Hr sr hr2 => ?_⟩⟩
    obtain ⟨ra, rfl, hra⟩ := at_tS.mp hr2
    refine ⟨_, rfl, D7, _, rfl, DGet.t (k := txK (restr k.und o)) (sr _ _ (s' _ _ (s8 _ _ hK))) (by rw [txK_kV]; exact hra), _, rfl, ?_⟩
    rw [hkv]
    by_cases hm : restr k.und o ∈ k.pos
    · exact ifT (decide_eq_true hm) ⟨_, rfl, ky (tS o) _ _ (fm_yes (decide_eq_true hm)) sr (hv.mono (.of sr))⟩
    · exact ifF (decide_eq_false hm) (kn _ (fm_no (decide_eq_false hm)) sr)
  rw [fm_if] at hzat
  have s9' := s8'.trans s9
  -- the tuple
  refine ⟨_, rfl, _, rfl, q6, _, rfl, s9 _ _ (s8 _ _ (s7 _ _ eM)), fun t1 ht1 => ⟨_, rfl, D9, _, rfl, same_new ht1 _ _ _ hzs, fun t2 ht2 => ⟨(by show 3 ≤ sizeLine; decide), fun t3 ht3 => ?_⟩⟩⟩
  have g1 := same_new ht1 (HO.tup (M.map V.str))
  have g2 := same_new ht2 (HO.tup zs)
  have g3 := same_new ht3 (HO.tup [V.ref d, V.ref t1, V.ref t2])
  refine kk _ _ (s9'.trans (g1.trans (g2.trans g3))) (at_tup (.cons ?_ (.cons ?_ (.cons ?_ .nil))) upd_same)
  · exact ⟨d, dv, rfl, g3 _ _ (g2 _ _ (g1 _ _ (s9' _ _ hd))), hdv.mono (.of (s9'.trans (g1.trans (g2.trans g3))))⟩
  · refine at_tS.mpr ⟨t1, rfl, ?_⟩
    show _ = some (HO.tup ((srt leS (k.und ++ freshN leS k ns)).map V.str))
    rw [hM]
    exact g3 _ _ (g2 _ _ upd_same)
  · refine ⟨t2, zs, rfl, g3 _ _ upd_same, ?_⟩
    show Ats _ (((allO (srt leS (k.und ++ freshN leS k ns))).filter _).map tS) zs
    rw [hM]
    exact hzat.mono (.of (g1.trans (g2.trans g3)))
/-- the error that is raised for an empty set of outcomes -/
structure Contra (K : PySem.W.Frag) (mg : PySem.Str → Option Value) (C : Addr) : Prop where
  g : mg "Contradiction" = some (.ref C)
  x : PySem.W.excIn K C [.type "ValueError", .type "Exception", .type "BaseException", .type "object"] "ValueError.__new__" = true
  k : PySem.W.keepIn K (.ref C) = true
  b : PySem.W.subIn K (.ref C) (.type "BaseException") = some true
  t : PySem.W.typeIn K (.ref C) = some (.type "type")
  e : PySem.W.exmOne K (.ref C) (.ref C) = some true
/-- all stands but the objects at p and q -/
def Kb2 (p q : Addr) (H H' : Hp) : Prop := ∀ b o, b ≠ p → b ≠ q → H b = some o → H' b = some o
theorem Kb2.trans {p q : Addr} {H H1 H2 : Hp} (a : Kb2 p q H H1) (b : Kb2 p q H1 H2) : Kb2 p q H H2 := fun c o n m e => b c o n m (a c o n m e)
theorem Kb2.of {p q : Addr} {H H' : Hp} (s : Same H H') : Kb2 p q H H' := fun b o _ _ e => s b o e
theorem Kb2.p {p q : Addr} {H : Hp} {o : HO} : Kb2 p q H (upd H p o) := fun b u n _ e => by rw [upd_ne n]; exact e
theorem Kb2.q {p q : Addr} {H : Hp} {o : HO} : Kb2 p q H (upd H q o) := fun b u _ n e => by rw [upd_ne n]; exact e
theorem Kb2.ts {p q : Addr} {H H' : Hp} (k : Kb2 p q H H') {xs ys : List V} (h : H p = some (.lst xs)) (g : H q = some (.lst ys)) : TS H H' := fun b zs e =>
  k b _ (fun z => by rw [z, h] at e; cases e) (fun z => by rw [z, g] at e; cases e) e
theorem Kb2.same {p q : Addr} {H H1 H' : Hp} (s : Same H H1) (k : Kb2 p q H1 H') (n : H p = none) (m : H q = none) : Same H H' := fun b o e => k b o (ne_of_none e n) (ne_of_none e m) (s b o e)
theorem dec_nat (a b : Nat) : decide (V.int (a : Int) = V.int (b : Int)) = decide (a = b) := by
  rw [dec_int]
  by_cases h : a = b
  · rw [h, decide_eq_true rfl]
    exact beq_self_eq_true _
  · rw [decide_eq_false h]
    exact beq_eq_false_iff_ne.mpr (by omega)
theorem ok_keep {C : Addr} (F : Fun K "keep" "keep" s_keep f fd) (B : Blt mg) (T : Contra K mg C) (Drestricted : Def P w K mg base CX0 1 "restricted" ["outcome", "names"] spRestr) : FnOk P w K mg base (L2.CX P w) 2 f fd ["known", "outcomes"] (spKeep C) := by
  refine F.okX sc_keep (fun vs H Q E h => ?_) (fun cdv A outer s H vs Q E hr h => ?_)
  · obtain ⟨k, os, v, u, rfl, _⟩ := h
    rfl
  obtain ⟨k, os, v, u, rfl, hk, hos, h100, hdu, hol, kno, kk⟩ := h
  obtain ⟨a, d, un, p, dv, pvs, rfl, ha, hd, hdv, hun, hp, hpv⟩ := at_knT hk
  obtain ⟨oa, ovs, rfl, hoa, hov⟩ := hos
  have hol2 : ovs.length = os.length := by rw [hov.len, List.length_map]
  refine ⟨_, (pss_cons (ps_asg (pv 0) (pg_tup0 rfl (pgs_cons (pg_name (i := 2) sc_keep.nd rfl (Or.inl rfl)) (pgs_cons (pg_name (i := 3) sc_keep.nd rfl (Or.inl rfl)) (pgs_cons (pg_name (i := 4) sc_keep.nd rfl (Or.inl rfl)) pgs_nil)))))
    (pss_cons (ps_if (pt_cmpR op_eq (pe_callB cr_len (by rfl) B.len (by decide +kernel) (pa_cons (pv 1) pa_nil)) pe_int (nomark _)) (pss_one (ps_raise rfl (takes_of rfl rfl rfl rfl) (pmk_own PySem.F.excBase_ValueError T.x T.g T.k (raises_own T.b T.t) (by rfl)))) pss_nil)
    (pss_cons (ps_set (i := 5) sc_keep.nd rfl (Or.inl rfl) (pe_callTy cr_list (by rfl) B.list (by decide +kernel) (pa_cons (pv 2) pa_nil)))
    (pss_cons (ps_set (i := 6) sc_keep.nd rfl (Or.inr rfl) (pe_lst pa_nil))
    (pss_cons (ps_for (passes_of rfl) rfl (pi_tup (pv 3)) (pg_name (i := 7) sc_keep.nd rfl (Or.inr rfl)) (pss_cons (ps_set (i := 8) sc_keep.nd rfl (Or.inl rfl) (pe_callB cr_len (by rfl) B.len (by decide +kernel) (pa_cons (pe_lc (own := [("outcome", 10)]) (g := (gName 10)) rfl sc_keep.nd (pi_tup (pv 1)) (blkOk_by (own := [("outcome", 10)]) (N := n_keep) (sc := defScope s_keep) (by decide +kernel)) (fun _ _ _ _ _ => (pg_name (i := 10) sc_keep.nd rfl (Or.inl rfl))) (fun _ _ _ _ _ => (pts_one (pt_cmpR inS (pv 7) (pv 10) (by rfl)))) (fun _ _ _ _ _ => (pv 10))) pa_nil)))
    (pss_one (ps_if (PW.pt (pw_or (pt_cmpR op_eq (pv 8) pe_int (nomark _)) (pw_or1 (pt_cmpR op_eq (pv 8) (pe_callB cr_len (by rfl) B.len (by decide +kernel) (pa_cons (pv 1) pa_nil)) (nomark _))))) (pss_one (ps_expr (pe_bm PySem.F.plainAttrs_list PySem.F.slot_list_append PySem.F.type_list_append mt_append (pv 5) (pa_cons (pe_tup (pa_cons (pv 7) (pa_cons (pe_cmpR op_gt (pv 8) pe_int (nomark _)) pa_nil))) pa_nil)))) (pss_one (ps_expr (pe_bm PySem.F.plainAttrs_list PySem.F.slot_list_append PySem.F.type_list_append mt_append (pv 6) (pa_cons (pv 7) pa_nil))))))))
    (pss_cons (ps_setLc (i := 9) (own := [("outcome", 10)]) (g := (gName 10)) rfl sc_keep.nd rfl rfl (sw_true rfl rfl rfl (by decide +kernel)) (pi_tup (pv 1)) (blkOk_by (own := [("outcome", 10)]) (N := n_keep) (sc := defScope s_keep) (by decide +kernel)) (fun _ _ _ _ _ => (pg_name (i := 10) sc_keep.nd rfl (Or.inl rfl))) (fun _ _ _ _ _ => pts_nil) (fun _ _ _ _ _ => (pe_callD Drestricted (hr.mono (by omega)) (by rfl) pass0 (pa_cons (pv 10) (pa_cons (pv 6) pa_nil)))))
    (pss_one (ps_ret (pe_tup (pa_cons (pe_callTy cr_tuple (by rfl) B.tuple (by decide +kernel) (pa_cons (pe_callB (cr_sortPairs hr) (by rfl) B.sorted (by decide +kernel) (pa_cons (pv 5) pa_nil)) pa_nil)) (pa_cons (pe_callTy cr_tuple (by rfl) B.tuple (by decide +kernel) (pa_cons (pv 6) pa_nil)) (pa_cons (pe_callTy cr_tuple (by rfl) B.tuple (by decide +kernel) (pa_cons (pv 9) pa_nil)) pa_nil)))))))))))), ?_⟩
  refine ⟨_, rfl, a, _, rfl, ha, rfl, _, _, rfl, _, _, rfl, _, _, rfl, rfl, ?_⟩
  refine ⟨_, rfl, oa, _, rfl, .inr hoa, rfl, _, rfl, ?_⟩
  rw [show decide (V.int (ovs.length : Int) = V.int 0) = decide (os.length = 0) from by rw [hol2]; exact dec_nat os.length 0]
  refine ite2 (fun c => ?_) (fun c => ?_)
  · exact kno (of_decide_eq_true c) H (Same.refl H)
  have c0 := of_decide_eq_false (Bool.eq_false_iff.mpr c)
  clear c
  -- pairs, varying
  refine ⟨_, rfl, d, _, rfl, .inr hd, fun l hl => ⟨Nat.zero_le _, fun q hq => ?_⟩⟩
  have hlH : H l = none := hl
  have hqH : H q = none := (same_new hl (.lst dv)).free hq
  have s1 : Same H (upd (upd H l (.lst dv)) q (.lst [])) := (same_new hl _).trans (same_new hq _)
  have el : (upd (upd H l (.lst dv)) q (.lst [])) l = some (.lst dv) := same_new hq _ _ _ upd_same
  have eq' : (upd (upd H l (.lst dv)) q (.lst [])) q = some (.lst []) := upd_same
  have nlq : l ≠ q := ne_of_none upd_same hq
  generalize upd (upd H l (.lst dv)) q (.lst []) = H1 at s1 el eq' ⊢
  have hov1 := hov.mono (.of s1)
  refine ⟨_, rfl, un, rfl, ⟨_, SqT.of (s1 _ _ hun)⟩, for_tup (xs := k.und.map V.str) (fun i σ H' => ∃ (x y : Option V) (zs : List V), σ = [some (V.ref a), some (V.ref oa), some (V.ref d), some (V.ref un), some (V.ref p), some (V.ref l), some (V.ref q), x, y, none, none] ∧ Kb2 l q H1 H' ∧
      H' l = some (.lst zs) ∧ Ats H' ((k.dec ++ ((k.und.take i).filter (fixd os)).map (mark os)).map pairT) zs ∧ H' q = some (.lst (((k.und.take i).filter fun x => !fixd os x).map V.str)))
    ⟨none, none, dv, rfl, Kb2.of (Same.refl _), el, ?_, by rw [List.take_zero]; exact eq'⟩ (fun i σ H' _ ⟨_, _, _, _, kb, _⟩ => SqT.of (kb.ts el eq' _ _ (s1 _ _ hun))) ?_ ?_⟩
  · rw [List.take_zero, List.filter_nil, List.map_nil, List.append_nil]
    exact hdv.mono (.of s1)
  · rintro i v σ H' hv ⟨x, y, zs, rfl, kb, hl', hzs, hq'⟩
    obtain ⟨nme, hn, rfl⟩ : ∃ nme, k.und[i]? = some nme ∧ v = V.str nme := by
      rw [List.getElem?_map] at hv
      cases e : k.und[i]? with
      | none => rw [e] at hv; cases hv
      | some z => rw [e] at hv; exact ⟨z, rfl, (Option.some.inj hv).symm⟩
    have hi : i < k.und.length := (List.getElem?_eq_some_iff.mp hn).1
    have ts1 := kb.ts el eq'
    have hoa' := ts1 _ _ (s1 _ _ hoa)
    have hov' := hov1.mono ts1
    have hzl : zs.length ≤ 200 := by
      have h1 := List.length_filter_le (fixd os) (k.und.take i)
      rw [List.length_take] at h1
      rw [hzs.len, List.length_map, List.length_append, List.length_map]
      omega
    have hvl : ((k.und.take i).filter fun x => !fixd os x).length ≤ 200 := by
      have h1 := List.length_filter_le (fun x => !fixd os x) (k.und.take i)
      rw [List.length_take] at h1
      omega
    -- count
    refine ⟨_, rfl, oa, rfl, ⟨_, SqT.of hoa'⟩, fun D hD => lcT (cs := os) tS (fmIf (fun o => decide (nme ∈ o)) tS) hoa' hov' (by omega) hD (fun o ho => ?_) fun H2 ws s2 hws hwat => ?_⟩
    · intro v H5 hv s5 Qy Qn ky kn
      obtain ⟨oa2, rfl, hoa2⟩ := at_tS.mp hv
      refine ⟨rfl, ⟨_, rfl, _, rfl, nme, oa2, o, rfl, rfl, .inr hoa2, _, rfl, ?_⟩⟩
      by_cases hm : nme ∈ o
      · exact ifT (decide_eq_true hm) ⟨_, rfl, ky (tS o) _ _ (fm_yes (decide_eq_true hm)) (Same.refl _) hv⟩
      · exact ifF (decide_eq_false hm) (kn _ (fm_no (decide_eq_false hm)) (Same.refl _))
    rw [fm_if] at hwat
    have ec : ws.length = cnt os nme := by
      rw [hwat.len, List.length_map]
      rfl
    refine ⟨D, ws, rfl, .inl hws, ?_⟩
    rw [ec]
    have kb2 := kb.trans (Kb2.of (p := l) (q := q) s2)
    have hl2 := s2 _ _ hl'
    have hq2 := s2 _ _ hq'
    have hzs2 := hzs.mono (.of s2)
    have etk := take_succ hn
    -- the two ways
    have yes : fixd os nme = true → tDrop (tBM K "list" rAppend (tVar 5) (tCons (tTup (tCons (tVar 7) (tCons (tOp (rI0 fun i j => .bl (decide (j < i))) (tVar 8) (tC (.int 0))) tNil))) tNil))
        { nx := fun σ H' => ∃ (x y : Option V) (zs : List V), σ = [some (V.ref a), some (V.ref oa), some (V.ref d), some (V.ref un), some (V.ref p), some (V.ref l), some (V.ref q), x, y, none, none] ∧ Kb2 l q H1 H' ∧
            H' l = some (.lst zs) ∧ Ats H' ((k.dec ++ ((k.und.take (i + 1)).filter (fixd os)).map (mark os)).map pairT) zs ∧ H' q = some (.lst (((k.und.take (i + 1)).filter fun x => !fixd os x).map V.str)), rt := Q }
        [some (V.ref a), some (V.ref oa), some (V.ref d), some (V.ref un), some (V.ref p), some (V.ref l), some (V.ref q), some (V.str nme), some (V.int (cnt os nme : Int)), none, none] H2 := fun hf => by
      refine ⟨_, rfl, .inl ⟨rfl, _, SqL.of hl2⟩, _, rfl, _, rfl, _, _, rfl, rfl, two_line, fun t ht => ⟨l, zs, _, rfl, rfl, same_new ht _ _ _ hl2, small_line (by omega), ?_⟩⟩
      have st := same_new ht (.tup [V.str nme, V.bl (decide (0 < (cnt os nme : Int)))])
      have et : (upd H2 t (.tup [V.str nme, V.bl (decide (0 < (cnt os nme : Int)))])) t = some (.tup [V.str nme, V.bl (decide (0 < (cnt os nme : Int)))]) := upd_same
      generalize upd H2 t (.tup [V.str nme, V.bl (decide (0 < (cnt os nme : Int)))]) = H3 at st et ⊢
      have tsu : TS H3 (upd H3 l (.lst (zs ++ [V.ref t]))) := TS.lst (st _ _ hl2)
      refine ⟨_, _, zs ++ [V.ref t], rfl, kb2.trans ((Kb2.of st).trans Kb2.p), upd_same, ?_, ?_⟩
      · have ee : k.dec ++ ((k.und.take (i + 1)).filter (fixd os)).map (mark os) = (k.dec ++ ((k.und.take i).filter (fixd os)).map (mark os)) ++ [mark os nme] := by
          rw [etk, List.filter_append, List.filter_cons_of_pos hf, List.filter_nil, List.map_append, List.append_assoc]
          rfl
        rw [ee, List.map_append]
        refine (hzs2.mono ((TS.of st).trans tsu)).app (.cons ?_ .nil)
        refine pair_at (p := mark os nme) (tsu _ _ ?_)
        rw [et]
        show some (HO.tup [V.str nme, V.bl (decide (0 < (cnt os nme : Int)))]) = some (HO.tup [V.str nme, V.bl (decide (0 < cnt os nme))])
        rw [show decide (0 < (cnt os nme : Int)) = decide (0 < cnt os nme) from decide_eq_decide.mpr (by omega)]
      · rw [upd_ne (Ne.symm nlq), st _ _ hq2, etk, List.filter_append, List.filter_cons_of_neg (by rw [hf]; decide), List.filter_nil, List.append_nil]
    refine ⟨_, rfl, rfl, _, rfl, ?_⟩
    rw [show decide (V.int (cnt os nme : Int) = V.int 0) = decide (cnt os nme = 0) from dec_nat _ 0]
    by_cases c1 : cnt os nme = 0
    · exact ifT (decide_eq_true c1) (yes (decide_eq_true (.inl c1)))
    refine ifF (decide_eq_false c1) ⟨_, rfl, _, rfl, oa, _, rfl, .inr (s2 _ _ hoa'), rfl, _, rfl, ?_⟩
    rw [hol2, dec_nat]
    by_cases c2 : cnt os nme = os.length
    · exact ifT (decide_eq_true c2) (yes (decide_eq_true (.inr c2)))
    have hf : fixd os nme = false := decide_eq_false (by omega)
    refine ifF (decide_eq_false c2) ⟨_, rfl, .inl ⟨rfl, _, SqL.of hq2⟩, _, rfl, q, _, _, rfl, rfl, hq2, small_line (by rw [List.length_map]; omega), ?_⟩
    have tsu : TS H2 (upd H2 q (.lst (((k.und.take i).filter fun x => !fixd os x).map V.str ++ [V.str nme]))) := TS.lst hq2
    refine ⟨_, _, zs, rfl, kb2.trans Kb2.q, by rw [upd_ne nlq]; exact hl2, ?_, ?_⟩
    · rw [etk, List.filter_append, List.filter_cons_of_neg (by rw [hf]; decide), List.filter_nil, List.append_nil]
      exact hzs2.mono tsu
    · rw [upd_same, etk, List.filter_append, List.filter_cons_of_pos (by rw [hf]; rfl), List.filter_nil, List.map_append]
      rfl
  rintro σ H2 ⟨x, y, zs, rfl, kb, hl', hzs, hq'⟩
  rw [List.length_map, List.take_length] at hzs hq'
  have ts2 : TS H H2 := (TS.of s1).trans (kb.ts el eq')
  have s2 : Same H H2 := kb.same s1 hlH hqH
  generalize hV : (k.und.filter fun x => !fixd os x) = V1 at hq'
  have hps : (k.dec ++ (k.und.filter (fixd os)).map (mark os)).length ≤ 200 := by
    have h1 := List.length_filter_le (fixd os) k.und
    rw [List.length_append, List.length_map]
    omega
  -- possible
  refine ⟨_, rfl, oa, rfl, ⟨_, SqT.of (ts2 _ _ hoa)⟩, fun D hD => lcT (cs := os) tS (fun o => some (tS (restr V1 o))) (ts2 _ _ hoa) (hov.mono ts2) (by omega) hD (fun o ho => ?_) fun H3 ws s3 hws hwat => ?_⟩
  · intro v H5 hv s5 Qy Qn ky kn
    exact ⟨rfl, ⟨_, rfl, _, rfl, o, V1, v, q, rfl, hv, .inl (s5 _ _ hq'), hol o ho, fun r Hr sr hr2 => ky _ _ _ rfl sr hr2⟩⟩
  rw [fm_map] at hwat
  have hl3 := s3 _ _ hl'
  have hq3 := s3 _ _ hq'
  have hzs3 := hzs.mono (.of s3)
  -- the tuple
  refine ⟨_, rfl, l, zs, _, rfl, hl3, hzs3, by omega, fun ys r hys hr1 => ?_⟩
  refine ⟨r, ys, rfl, upd_same, fun t1 ht1 => ⟨_, rfl, q, _, rfl, same_new ht1 _ _ _ (same_new hr1 _ _ _ hq3), fun t2 ht2 => ⟨_, rfl, D, ws, rfl, same_new ht2 _ _ _ (same_new ht1 _ _ _ (same_new hr1 _ _ _ hws)), fun t3 ht3 => ⟨(by show 3 ≤ sizeLine; decide), fun t4 ht4 => ?_⟩⟩⟩⟩
  have g0 := same_new hr1 (HO.lst ys)
  have g1 := same_new ht1 (HO.tup ys)
  have g2 := same_new ht2 (HO.tup (V1.map V.str))
  have g3 := same_new ht3 (HO.tup ws)
  have g4 := same_new ht4 (HO.tup [V.ref t1, V.ref t2, V.ref t3])
  refine kk c0 _ _ (s2.trans (s3.trans (g0.trans (g1.trans (g2.trans (g3.trans g4)))))) (at_tup (.cons ?_ (.cons ?_ (.cons ?_ .nil))) upd_same)
  · exact ⟨t1, ys, rfl, g4 _ _ (g3 _ _ (g2 _ _ upd_same)), hys.mono (.of (g0.trans (g1.trans (g2.trans (g3.trans g4)))))⟩
  · refine at_tS.mpr ⟨t2, rfl, ?_⟩
    show _ = some (HO.tup ((k.und.filter fun x => !fixd os x).map V.str))
    rw [hV]
    exact g4 _ _ (g3 _ _ upd_same)
  · refine ⟨t3, ws, rfl, g4 _ _ upd_same, ?_⟩
    show Ats _ ((os.map (restr (k.und.filter fun x => !fixd os x))).map tS) ws
    rw [hV, List.map_map]
    exact hwat.mono (.of (g0.trans (g1.trans (g2.trans (g3.trans g4)))))
end
end K49
namespace K49
open PySem PySem.Spec PyProof.Rows L2
abbrev s_law_true : Stmt := top 24
abbrev n_law_true : List PySem.Str := ["_law_fact_here", "_law_committed", "_law_name", "_law_part"]
theorem sc_law_true : FnScope n_law_true ["_law_fact_here", "_law_committed"] (defScope s_law_true) := ⟨rfl, rfl, rfl, by decide +kernel, rfl, by decide +kernel, by decide +kernel⟩
abbrev s_law_listed : Stmt := top 25
abbrev n_law_listed : List PySem.Str := ["_law_fact_here", "_law_parts", "_law_found", "_law_part"]
theorem sc_law_listed : FnScope n_law_listed ["_law_fact_here"] (defScope s_law_listed) := ⟨rfl, rfl, rfl, by decide +kernel, rfl, by decide +kernel, by decide +kernel⟩
abbrev s_law_once : Stmt := top 26
abbrev n_law_once : List PySem.Str := ["_law_names_here", "_law_found", "_law_name"]
theorem sc_law_once : FnScope n_law_once ["_law_names_here"] (defScope s_law_once) := ⟨rfl, rfl, rfl, by decide +kernel, rfl, by decide +kernel, by decide +kernel⟩
abbrev s_law_all : Stmt := top 27
abbrev n_law_all : List PySem.Str := ["_law_names_here", "_law_rows", "_law_name", "_law_row"]
theorem sc_law_all : FnScope n_law_all ["_law_names_here"] (defScope s_law_all) := ⟨rfl, rfl, rfl, by decide +kernel, rfl, by decide +kernel, by decide +kernel⟩
abbrev s_law_seen : Stmt := top 29
abbrev n_law_seen : List PySem.Str := ["_law_row", "_law_names_here", "_law_name"]
theorem sc_law_seen : FnScope n_law_seen ["_law_row", "_law_names_here"] (defScope s_law_seen) := ⟨rfl, rfl, rfl, by decide +kernel, rfl, by decide +kernel, by decide +kernel⟩
abbrev s_law_extended : Stmt := top 32
abbrev n_law_extended : List PySem.Str := ["_law_worlds_here", "_law_fresh", "_law_found", "_law_row", "_law_world"]
theorem sc_law_extended : FnScope n_law_extended ["_law_worlds_here", "_law_fresh"] (defScope s_law_extended) := ⟨rfl, rfl, rfl, by decide +kernel, rfl, by decide +kernel, by decide +kernel⟩
def spListL (n : Nat) : Sp := fun vs H Q _ => ∃ (f : Fs) (v : V), vs = [v] ∧ FOk n f ∧ At H (tF f) v ∧ ∀ (q : Addr) H', Same H H' → H' q = some (.lst ((nm f).map V.str)) → Q (.ref q) H'
def spOnce : Sp := fun vs H Q _ => ∃ (ns : List PySem.Str) (p : Addr), vs = [V.ref p] ∧ H p = some (.lst (ns.map V.str)) ∧ ns.length ≤ 100000 ∧ ∀ (q : Addr) H', Same H H' → H' q = some (.lst ((once [] ns).map V.str)) → Q (.ref q) H'
def spSeen : Sp := fun vs H Q _ => ∃ (o ns : List PySem.Str) (v : V) (p : Addr), vs = [v, V.ref p] ∧ At H (tS o) v ∧ H p = some (.lst (ns.map V.str)) ∧ ns.length ≤ 100 ∧ ∀ (u : V) H', Same H H' → At H' (tS (seen ns o)) u → Q u H'
def spExt : Sp := fun vs H Q _ => ∃ (W : List (List PySem.Str)) (ns : List PySem.Str) (wp np : Addr) (wv : List V), vs = [V.ref wp, V.ref np] ∧ H wp = some (.lst wv) ∧ Ats H (W.map tS) wv ∧ (∀ w ∈ W, w.length ≤ 100) ∧ W.length ≤ 64 ∧ H np = some (.lst (ns.map V.str)) ∧ ns.length ≤ 6 ∧
  ∀ (q : Addr) (ys : List V) H', Same H H' → H' q = some (.lst ys) → Ats H' ((extend W ns).map tS) ys → Q (.ref q) H'
section
variable {P : Program} {w : World} {K : PySem.W.Frag} {mg : PySem.Str → Option Value} {base : Heap} {f : Addr} {fd : FuncData}
theorem none_no (g : Fs → Bool) : ∀ fs : List Fs, decide ((fs.filter fun x => !g x).length = 0) = fs.all g
  | [] => rfl
  | x :: r => by
    have ih := none_no g r
    cases h : g x with
    | true => rw [List.filter_cons_of_neg (by rw [h]; decide), List.all_cons, h, Bool.true_and, ih]
    | false => rw [List.filter_cons_of_pos (by rw [h]; rfl), List.all_cons, h]; simp
theorem some_yes (g : Fs → Bool) : ∀ fs : List Fs, decide (0 < (fs.filter g).length) = fs.any g
  | [] => rfl
  | x :: r => by
    have ih := some_yes g r
    cases h : g x with
    | true => rw [List.filter_cons_of_pos h, List.any_cons, h]; simp
    | false => rw [List.filter_cons_of_neg (by rw [h]; decide), List.any_cons, h, Bool.false_or, ih]
theorem true_none : FnOk P w K mg base CX0 1 f fd ["_law_fact_here", "_law_committed"] (spHolds 0) := by
  have no : ∀ vs H Q E, ¬ spHolds 0 vs H Q E := fun vs H Q E ⟨_, _, _, _, _, z, _⟩ => z
  exact ⟨fun vs H Q E h => absurd h (no vs H Q E), fun A outer s H args us vs Q E _ _ _ _ h => absurd h (no vs H Q E)⟩
theorem ok_true (F : Fun K "_law_true" "_law_true" s_law_true f fd) (B : Blt mg) (n : Nat) (D_true : Def P w K mg base CX0 (n + 1) "_law_true" ["_law_fact_here", "_law_committed"] (spHolds n)) : FnOk P w K mg base CX0 (n + 2) f fd ["_law_fact_here", "_law_committed"] (spHolds (n + 1)) := by
  refine F.ok sc_law_true (fun vs H Q E h => ?_) (fun cdv A outer s H vs Q E hr h => ?_)
  · obtain ⟨f, c, v, u, rfl, _⟩ := h
    rfl
  obtain ⟨f, cm, v, u, rfl, hok, hf, hc, k⟩ := h
  obtain ⟨a, us, rfl, ha, hus⟩ := at_tF hf
  obtain ⟨ca, rfl, hca⟩ := at_tS.mp hc
  refine ⟨_, (pss_cons (ps_if (pt_cmpR op_eq (pe_ix ixT0 (pv 0) pe_int (fun _ _ => rfl)) pe_str (nomark _)) (pss_one (ps_ret (pe_cmpR inS (pe_ix ixT0 (pv 0) pe_int (fun _ _ => rfl)) (pv 1) (by rfl)))) pss_nil)
    (pss_cons (ps_if (pt_cmpR op_eq (pe_ix ixT0 (pv 0) pe_int (fun _ _ => rfl)) pe_str (nomark _)) (pss_one (ps_ret (pe_cmpR op_eq (pe_callB cr_len (by rfl) B.len (by decide +kernel) (pa_cons (pe_lc (own := [("_law_name", 2)]) (g := (gName 2)) rfl sc_law_true.nd (pi_tup (pe_ix ixT0 (pv 0) pe_int (fun _ _ => rfl))) (blkOk_by (own := [("_law_name", 2)]) (N := n_law_true) (sc := defScope s_law_true) (by decide +kernel)) (fun _ _ _ _ _ => (pg_name (i := 2) sc_law_true.nd rfl (Or.inl rfl))) (fun _ _ _ _ _ => (pts_one (pt_cmpR inS (pv 2) (pv 1) (by rfl)))) (fun _ _ _ _ _ => (pv 2))) pa_nil)) pe_int (nomark _)))) pss_nil)
    (pss_cons (ps_if (pt_cmpR op_eq (pe_ix ixT0 (pv 0) pe_int (fun _ _ => rfl)) pe_str (nomark _)) (pss_one (ps_ret (pe_not (pe_callD D_true (hr.mono (by omega)) (by rfl) pass0 (pa_cons (pe_ix ixT0 (pv 0) pe_int (fun _ _ => rfl)) (pa_cons (pv 1) pa_nil)))))) pss_nil)
    (pss_cons (ps_if (pt_cmpR op_eq (pe_ix ixT0 (pv 0) pe_int (fun _ _ => rfl)) pe_str (nomark _)) (pss_one (ps_ret (pe_or (pe_callD D_true (hr.mono (by omega)) (by rfl) pass0 (pa_cons (pe_ix ixT0 (pv 0) pe_int (fun _ _ => rfl)) (pa_cons (pv 1) pa_nil))) (pe_one (pe_not (pe_callD D_true (hr.mono (by omega)) (by rfl) pass0 (pa_cons (pe_ix ixT0 (pv 0) pe_int (fun _ _ => rfl)) (pa_cons (pv 1) pa_nil)))))))) pss_nil)
    (pss_cons (ps_if (pt_cmpR op_eq (pe_ix ixT0 (pv 0) pe_int (fun _ _ => rfl)) pe_str (nomark _)) (pss_one (ps_ret (pe_cmpR op_eq (pe_callB cr_len (by rfl) B.len (by decide +kernel) (pa_cons (pe_lc (own := [("_law_part", 3)]) (g := (gName 3)) rfl sc_law_true.nd (pi_tup (pe_ix ixT0 (pv 0) pe_int (fun _ _ => rfl))) (blkOk_by (own := [("_law_part", 3)]) (N := n_law_true) (sc := defScope s_law_true) (by decide +kernel)) (fun _ _ _ _ _ => (pg_name (i := 3) sc_law_true.nd rfl (Or.inl rfl))) (fun _ _ _ _ _ => (pts_one (pt_not (pt_val (pe_callD D_true (hr.mono (by omega)) (by rfl) pass0 (pa_cons (pv 3) (pa_cons (pv 1) pa_nil))))))) (fun _ _ _ _ _ => (pv 3))) pa_nil)) pe_int (nomark _)))) pss_nil)
    (pss_cons (ps_if (pt_cmpR op_eq (pe_ix ixT0 (pv 0) pe_int (fun _ _ => rfl)) pe_str (nomark _)) (pss_one (ps_ret (pe_cmpR op_gt (pe_callB cr_len (by rfl) B.len (by decide +kernel) (pa_cons (pe_lc (own := [("_law_part", 3)]) (g := (gName 3)) rfl sc_law_true.nd (pi_tup (pe_ix ixT0 (pv 0) pe_int (fun _ _ => rfl))) (blkOk_by (own := [("_law_part", 3)]) (N := n_law_true) (sc := defScope s_law_true) (by decide +kernel)) (fun _ _ _ _ _ => (pg_name (i := 3) sc_law_true.nd rfl (Or.inl rfl))) (fun _ _ _ _ _ => (pts_one (pt_val (pe_callD D_true (hr.mono (by omega)) (by rfl) pass0 (pa_cons (pv 3) (pa_cons (pv 1) pa_nil)))))) (fun _ _ _ _ _ => (pv 3))) pa_nil)) pe_int (nomark _)))) pss_nil)
    (pss_one (ps_ret (pe_cmpR op_eq (pe_ix ixT0 (pv 0) pe_int (fun _ _ => rfl)) pe_str (nomark _)))))))))), ?_⟩
  refine ⟨_, rfl, a, _, 0, _, rfl, rfl, ha, at0, rfl, _, rfl, ?_⟩
  show (if decide (V.str (wK (kd f)) = V.str "commits") = true then _ else _)
  rw [is_com]
  refine ite2 (fun c => ?_) (fun c => ?_)
  · have c := of_decide_eq_true c
    obtain ⟨nme, rfl⟩ := kd_com c
    obtain ⟨x, r, rfl, hx, _⟩ := hus
    obtain rfl : x = V.str nme := hx
    exact ⟨_, rfl, a, _, 1, _, rfl, rfl, ha, at1, _, rfl, nme, ca, cm, rfl, rfl, .inr hca, k _ (Same.refl H)⟩
  have c1 := of_decide_eq_false (Bool.eq_false_iff.mpr c)
  clear c
  refine ⟨_, rfl, a, _, 0, _, rfl, rfl, ha, at0, rfl, _, rfl, ?_⟩
  show (if decide (V.str (wK (kd f)) = V.str "one of") = true then _ else _)
  rw [is_one]
  refine ite2 (fun c => ?_) (fun c => ?_)
  · have c := of_decide_eq_true c
    obtain ⟨ns, rfl⟩ := kd_one c
    obtain ⟨x, r, rfl, hx, _⟩ := hus
    obtain ⟨np, rfl, hnp⟩ := at_tS.mp hx
    have hl : ns.length ≤ 10 := hok
    refine ⟨_, rfl, a, _, 1, _, rfl, rfl, ha, at1, np, rfl, ⟨_, SqT.of hnp⟩, fun D hD => lcT (cs := ns) T.s (fmIf (fun x => decide (x ∈ cm)) T.s) hnp Ats.of (by omega) hD (fun x hx => ?_) fun H2 ys s2 hys hat => ?_⟩
    · intro v H' hv s' Qy Qn ky kn
      obtain rfl : v = V.str x := hv
      refine ⟨rfl, ?_⟩
      refine ⟨_, rfl, _, rfl, x, ca, cm, rfl, rfl, .inr (s' _ _ hca), _, rfl, ?_⟩
      by_cases hm : x ∈ cm
      · exact ifT (decide_eq_true hm) ⟨_, rfl, ky (T.s x) _ _ (fm_yes (decide_eq_true hm)) (Same.refl _) rfl⟩
      · exact ifF (decide_eq_false hm) (kn _ (fm_no (decide_eq_false hm)) (Same.refl _))
    · refine ⟨D, ys, rfl, .inl hys, rfl, ?_⟩
      have e : ys.length = (ns.filter fun x => decide (x ∈ cm)).length := by
        rw [hat.len, fm_if, List.length_map]
      have e2 : decide (V.int (ys.length : Int) = V.int 1) = ev (K49.F.one ns) fun x => decide (x ∈ cm) := by
        show _ = decide ((ns.filter fun x => decide (x ∈ cm)).length = 1)
        rw [← e]
        exact dec_nat ys.length 1
      show Q (.bl (decide (V.int (ys.length : Int) = V.int 1))) H2
      rw [e2]
      exact k _ s2
  have c2 := of_decide_eq_false (Bool.eq_false_iff.mpr c)
  clear c
  refine ⟨_, rfl, a, _, 0, _, rfl, rfl, ha, at0, rfl, _, rfl, ?_⟩
  show (if decide (V.str (wK (kd f)) = V.str "not") = true then _ else _)
  rw [is_nt]
  refine ite2 (fun c => ?_) (fun c => ?_)
  · have c := of_decide_eq_true c
    obtain ⟨g, rfl⟩ := kd_nt c
    obtain ⟨x, r, rfl, hx, _⟩ := hus
    refine ⟨_, rfl, a, _, 1, x, rfl, rfl, ha, at1, _, rfl, g, cm, x, _, rfl, hok, hx, hc, fun H2 s2 => ⟨_, rfl, k _ s2⟩⟩
  have c3 := of_decide_eq_false (Bool.eq_false_iff.mpr c)
  clear c
  refine ⟨_, rfl, a, _, 0, _, rfl, rfl, ha, at0, rfl, _, rfl, ?_⟩
  show (if decide (V.str (wK (kd f)) = V.str "implies") = true then _ else _)
  rw [is_im]
  refine ite2 (fun c => ?_) (fun c => ?_)
  · have c := of_decide_eq_true c
    obtain ⟨l, r, rfl⟩ := kd_im c
    obtain ⟨x, us, rfl, hx, y, us2, rfl, hy, _⟩ := hus
    refine ⟨_, rfl, a, _, 2, y, rfl, rfl, ha, at2, _, rfl, r, cm, y, _, rfl, hok.2, hy, hc, fun H2 s2 => ⟨_, rfl, ?_⟩⟩
    have eim : ev (K49.F.im l r) (fun x => decide (x ∈ cm)) = (ev r (fun x => decide (x ∈ cm)) || !ev l fun x => decide (x ∈ cm)) := rfl
    refine ite2 (fun e => ?_) (fun e => ?_)
    · have q := k _ s2
      rw [eim, e] at q
      exact q
    · have e : ev r (fun x => decide (x ∈ cm)) = false := Bool.eq_false_iff.mpr e
      refine ⟨_, rfl, a, _, 1, x, rfl, rfl, s2 _ _ ha, at1, _, rfl, l, cm, x, _, rfl, hok.1, hx.mono (.of s2), hc.mono (.of s2), fun H3 s3 => ⟨_, rfl, ?_⟩⟩
      have q := k _ (s2.trans s3)
      rw [eim, e] at q
      exact q
  have c4 := of_decide_eq_false (Bool.eq_false_iff.mpr c)
  clear c
  refine ⟨_, rfl, a, _, 0, _, rfl, rfl, ha, at0, rfl, _, rfl, ?_⟩
  show (if decide (V.str (wK (kd f)) = V.str "and") = true then _ else _)
  rw [is_an]
  refine ite2 (fun c => ?_) (fun c => ?_)
  · have c := of_decide_eq_true c
    obtain ⟨fs, rfl⟩ := kd_an c
    obtain ⟨x, r, rfl, hx, _⟩ := hus
    obtain ⟨np, nvs, rfl, hnp, hnv⟩ := hx
    rw [tFs_map] at hnv
    have hl : fs.length ≤ 10 := hok.1
    refine ⟨_, rfl, a, _, 1, _, rfl, rfl, ha, at1, np, rfl, ⟨_, SqT.of hnp⟩, fun D hD => lcT (cs := fs) tF (fmIf (fun g => !ev g fun x => decide (x ∈ cm)) tF) hnp hnv (by omega) hD (fun g hg => ?_) fun H2 ys s2 hys hat => ?_⟩
    · intro v H' hv s' Qy Qn ky kn
      refine ⟨rfl, ?_⟩
      refine ⟨_, rfl, _, rfl, g, cm, v, _, rfl, hok.2 g hg, hv, hc.mono (.of s'), fun H3 s3 => ⟨_, rfl, ?_⟩⟩
      cases e : ev g fun x => decide (x ∈ cm) with
      | false => exact ⟨_, rfl, ky (tF g) _ _ (fm_yes (by rw [e]; rfl)) s3 (hv.mono (.of s3))⟩
      | true => exact kn _ (fm_no (by rw [e]; rfl)) s3
    · refine ⟨D, ys, rfl, .inl hys, rfl, ?_⟩
      have e : decide (V.int (ys.length : Int) = V.int 0) = ev (K49.F.an fs) fun x => decide (x ∈ cm) := by
        show _ = evA fs _
        rw [evA_all, ← none_no, show V.int 0 = V.int ((0 : Nat) : Int) from rfl, dec_nat, hat.len, fm_if, List.length_map]
      show Q (.bl (decide (V.int (ys.length : Int) = V.int 0))) H2
      rw [e]
      exact k _ s2
  have c5 := of_decide_eq_false (Bool.eq_false_iff.mpr c)
  clear c
  refine ⟨_, rfl, a, _, 0, _, rfl, rfl, ha, at0, rfl, _, rfl, ?_⟩
  show (if decide (V.str (wK (kd f)) = V.str "or") = true then _ else _)
  rw [is_oo]
  refine ite2 (fun c => ?_) (fun c => ?_)
  · have c := of_decide_eq_true c
    obtain ⟨fs, rfl⟩ := kd_oo c
    obtain ⟨x, r, rfl, hx, _⟩ := hus
    obtain ⟨np, nvs, rfl, hnp, hnv⟩ := hx
    rw [tFs_map] at hnv
    have hl : fs.length ≤ 10 := hok.1
    refine ⟨_, rfl, a, _, 1, _, rfl, rfl, ha, at1, np, rfl, ⟨_, SqT.of hnp⟩, fun D hD => lcT (cs := fs) tF (fmIf (fun g => ev g fun x => decide (x ∈ cm)) tF) hnp hnv (by omega) hD (fun g hg => ?_) fun H2 ys s2 hys hat => ?_⟩
    · intro v H' hv s' Qy Qn ky kn
      refine ⟨rfl, ?_⟩
      refine ⟨_, rfl, _, rfl, g, cm, v, _, rfl, hok.2 g hg, hv, hc.mono (.of s'), fun H3 s3 => ?_⟩
      cases e : ev g fun x => decide (x ∈ cm) with
      | true => exact ⟨_, rfl, _, rfl, ky (tF g) _ _ (fm_yes e) s3 (hv.mono (.of s3))⟩
      | false => exact ⟨_, rfl, kn _ (fm_no e) s3⟩
    · refine ⟨D, ys, rfl, .inl hys, _, _, rfl, rfl, ?_⟩
      have e : decide (0 < (ys.length : Int)) = ev (K49.F.oo fs) fun x => decide (x ∈ cm) := by
        show _ = evO fs _
        rw [evO_any, ← some_yes, hat.len, fm_if, List.length_map]
        exact decide_eq_decide.mpr (by omega)
      show Q (.bl (decide (0 < (ys.length : Int)))) H2
      rw [e]
      exact k _ s2
  have c6 := of_decide_eq_false (Bool.eq_false_iff.mpr c)
  clear c
  refine ⟨_, rfl, a, _, 0, _, rfl, rfl, ha, at0, rfl, ?_⟩
  show Q (.bl (decide (V.str (wK (kd f)) = V.str "true"))) H
  rw [is_tt]
  have q := k _ (Same.refl H)
  have e : (ev f fun x => decide (x ∈ cm)) = decide (kd f = .tt) := by
    cases f <;> first | rfl | simp [kd] at c1 c2 c3 c4 c5 c6
  rw [e] at q
  exact q
theorem listed_none : FnOk P w K mg base CX0 1 f fd ["_law_fact_here"] (spListL 0) := by
  have no : ∀ vs H Q E, ¬ spListL 0 vs H Q E := fun vs H Q E ⟨_, _, _, z, _⟩ => z
  exact ⟨fun vs H Q E h => absurd h (no vs H Q E), fun A outer s H args us vs Q E _ _ _ _ h => absurd h (no vs H Q E)⟩
theorem ok_listed (F : Fun K "_law_listed" "_law_listed" s_law_listed f fd) (B : Blt mg) (n : Nat) (hn : n ≤ 3) (D_listed : Def P w K mg base CX0 (n + 1) "_law_listed" ["_law_fact_here"] (spListL n)) : FnOk P w K mg base CX0 (n + 2) f fd ["_law_fact_here"] (spListL (n + 1)) := by
  refine F.ok sc_law_listed (fun vs H Q E h => ?_) (fun cdv A outer s H vs Q E hr h => ?_)
  · obtain ⟨f, v, rfl, _⟩ := h
    rfl
  obtain ⟨f, v, rfl, hok, hf, k⟩ := h
  obtain ⟨a, us, rfl, ha, hus⟩ := at_tF hf
  have hok2 := hok.parts
  have hlen : (nm f).length ≤ 10000 := Nat.le_trans (nm_len _ _ hok) (Nat.le_trans (Nat.pow_le_pow_right (by decide) (by omega : n + 1 ≤ 4)) (by decide))
  have esp := nm_split f
  refine ⟨_, (pss_cons (ps_if (pt_cmpR op_eq (pe_ix ixT0 (pv 0) pe_int (fun _ _ => rfl)) pe_str (nomark _)) (pss_one (ps_ret (pe_lst (pa_cons (pe_ix ixT0 (pv 0) pe_int (fun _ _ => rfl)) pa_nil)))) pss_nil)
    (pss_cons (ps_if (pt_cmpR op_eq (pe_ix ixT0 (pv 0) pe_int (fun _ _ => rfl)) pe_str (nomark _)) (pss_one (ps_ret (pe_callTy cr_list (by rfl) B.list (by decide +kernel) (pa_cons (pe_ix ixT0 (pv 0) pe_int (fun _ _ => rfl)) pa_nil)))) pss_nil)
    (pss_cons (ps_set (i := 1) sc_law_listed.nd rfl (Or.inl rfl) (pe_slice sl0T (pv 0) (po_some pe_int) po_none))
    (pss_cons (ps_if (PW.pt (pw_or (pt_cmpR op_eq (pe_ix ixT0 (pv 0) pe_int (fun _ _ => rfl)) pe_str (nomark _)) (pw_or1 (pt_cmpR op_eq (pe_ix ixT0 (pv 0) pe_int (fun _ _ => rfl)) pe_str (nomark _))))) (pss_one (ps_set (i := 1) sc_law_listed.nd rfl (Or.inl rfl) (pe_ix ixT0 (pv 0) pe_int (fun _ _ => rfl)))) pss_nil)
    (pss_cons (ps_set (i := 2) sc_law_listed.nd rfl (Or.inl rfl) (pe_lst pa_nil))
    (pss_cons (ps_for PassesOwn.never rfl (pi_tup (pv 1)) (pg_name (i := 3) sc_law_listed.nd rfl (Or.inl rfl)) (pss_one (ps_set (i := 2) sc_law_listed.nd rfl (Or.inl rfl) (pe_op op_cat (pv 2) (pe_callD D_listed (hr.mono (by omega)) (by rfl) pass0 (pa_cons (pv 3) pa_nil))))))
    (pss_one (ps_ret (pv 2))))))))), ?_⟩
  refine ⟨_, rfl, a, _, 0, _, rfl, rfl, ha, at0, rfl, _, rfl, ?_⟩
  show (if decide (V.str (wK (kd f)) = V.str "commits") = true then _ else _)
  rw [is_com]
  refine ite2 (fun c => ?_) (fun c => ?_)
  · have c := of_decide_eq_true c
    obtain ⟨nme, rfl⟩ := kd_com c
    obtain ⟨x, r, rfl, hx, _⟩ := hus
    obtain rfl : x = V.str nme := hx
    exact ⟨_, rfl, a, _, 1, _, rfl, rfl, ha, at1, (by show 1 ≤ sizeLine; decide), fun q hq => k q _ (same_new hq _) upd_same⟩
  have c1 := of_decide_eq_false (Bool.eq_false_iff.mpr c)
  clear c
  refine ⟨_, rfl, a, _, 0, _, rfl, rfl, ha, at0, rfl, _, rfl, ?_⟩
  show (if decide (V.str (wK (kd f)) = V.str "one of") = true then _ else _)
  rw [is_one]
  refine ite2 (fun c => ?_) (fun c => ?_)
  · have c := of_decide_eq_true c
    obtain ⟨ns, rfl⟩ := kd_one c
    obtain ⟨x, r, rfl, hx, _⟩ := hus
    obtain ⟨np, rfl, hnp⟩ := at_tS.mp hx
    exact ⟨_, rfl, a, _, 1, _, rfl, rfl, ha, at1, np, _, rfl, .inr hnp, fun q hq => k q _ (same_new hq _) upd_same⟩
  have c2 := of_decide_eq_false (Bool.eq_false_iff.mpr c)
  clear c
  have elf : listF f = [] := by
    cases f <;> simp [kd, listF] at c1 c2 ⊢
  rw [elf, List.nil_append] at esp
  -- parts
  refine ⟨_, rfl, _, rfl, a, _, us, rfl, rfl, rfl, ha, fun p1 hp1 => ?_⟩
  have s1 := same_new hp1 (.tup us)
  have e1 : (upd H p1 (.tup us)) p1 = some (.tup us) := upd_same
  generalize upd H p1 (.tup us) = H1 at s1 e1 ⊢
  have rest : ∀ (pp : Addr) (pvs : List V), H1 pp = some (.tup pvs) → Ats H1 ((partsF f).map tF) pvs →
      tSeq (tAsg (tLst tNil) (gName 2)) (tSeq (tFor (iTup K (tVar 1)) (gName 3) (tAsg (tOp rCat (tVar 2) (tCallD (spListL n) E0 (tCons (tVar 3) tNil))) (gName 2))) (tRet (tVar 2)))
        { nx := fun _ H' => Q V.non H', rt := Q } [some (V.ref a), some (V.ref pp), none, none] H1 := by
    intro pp pvs hpp hpv
    have plen : pvs.length = (partsF f).length := by rw [hpv.len, List.length_map]
    refine ⟨Nat.zero_le _, fun q hq => ?_⟩
    have s2 := same_new hq (HO.lst [])
    have e2 : (upd H1 q (.lst [])) q = some (.lst []) := upd_same
    generalize upd H1 q (.lst []) = H2 at s2 e2 ⊢
    refine ⟨_, rfl, pp, rfl, ⟨_, SqT.of (s2 _ _ hpp)⟩, for_tup (xs := pvs) (fun i σ H' => ∃ (r : Addr) (y : Option V), σ = [some (V.ref a), some (V.ref pp), some (V.ref r), y] ∧ Same H2 H' ∧ H' r = some (.lst ((((partsF f).take i).flatMap nm).map V.str)))
      ⟨q, none, rfl, Same.refl _, by rw [List.take_zero]; exact e2⟩ (fun i σ H' _ ⟨_, _, _, s', _⟩ => SqT.of (s' _ _ (s2 _ _ hpp))) ?_ ?_⟩
    · rintro i z σ H' hz ⟨r, y, rfl, s', hr'⟩
      obtain ⟨g, hg, hat⟩ := hpv.getE hz
      refine ⟨_, rfl, _, rfl, g, z, rfl, hok2.2.1 g (List.mem_of_getElem? hg), hat.mono (.of (s2.trans s')), fun q2 H3 s3 hq2 => ?_⟩
      have et := take_cat nm hg
      refine ⟨r, q2, _, _, rfl, rfl, s3 _ _ hr', hq2, ?_, fun q3 hq3 => ⟨q3, _, rfl, s'.trans (s3.trans (same_new hq3 _)), ?_⟩⟩
      · have h1 := flat_take nm (partsF f) (i + 1)
        rw [et, List.length_append, ← esp] at h1
        rw [List.length_map, List.length_map]
        exact Nat.le_of_lt (small_line (by omega))
      · rw [upd_same, et, List.map_append]
    · rintro σ H3 ⟨r, y, rfl, s3, hr3⟩
      rw [plen, List.take_length, ← esp] at hr3
      exact ⟨_, rfl, k r H3 (s1.trans (s2.trans s3)) hr3⟩
  have ao : kd f = .an ∨ kd f = .oo → ∃ pp pvs, us = [V.ref pp] ∧ H1 pp = some (.tup pvs) ∧ Ats H1 ((partsF f).map tF) pvs := fun c => by
    have e : rs f = [.t ((partsF f).map tF)] := by
      cases f <;> first | (simp only [rs, partsF, tFs_map]; done) | exact absurd c (by simp [kd])
    rw [e] at hus
    obtain ⟨u, r, rfl, ⟨pp, pvs, rfl, hpp, hpv⟩, h0⟩ := hus
    obtain rfl : r = [] := h0
    exact ⟨pp, pvs, rfl, s1 _ _ hpp, hpv.mono (.of s1)⟩
  refine ⟨_, rfl, a, _, 0, _, rfl, rfl, s1 _ _ ha, at0, rfl, _, rfl, ?_⟩
  show (if decide (V.str (wK (kd f)) = V.str "and") = true then _ else _)
  rw [is_an]
  by_cases can : kd f = .an
  · refine ifT (decide_eq_true can) ?_
    obtain ⟨pp, pvs, e, hpp, hpv⟩ := ao (.inl can)
    exact ⟨_, rfl, a, _, 1, V.ref pp, rfl, rfl, s1 _ _ ha, by rw [e]; exact at1, rest pp pvs hpp hpv⟩
  refine ifF (decide_eq_false can) ⟨_, rfl, a, _, 0, _, rfl, rfl, s1 _ _ ha, at0, rfl, _, rfl, ?_⟩
  show (if decide (V.str (wK (kd f)) = V.str "or") = true then _ else _)
  rw [is_oo]
  by_cases coo : kd f = .oo
  · refine ifT (decide_eq_true coo) ?_
    obtain ⟨pp, pvs, e, hpp, hpv⟩ := ao (.inr coo)
    exact ⟨_, rfl, a, _, 1, V.ref pp, rfl, rfl, s1 _ _ ha, by rw [e]; exact at1, rest pp pvs hpp hpv⟩
  refine ifF (decide_eq_false coo) (rest p1 us e1 ?_)
  have e : (partsF f).map tF = rs f := by
    cases f <;> first | rfl | simp [kd] at c1 c2 can coo
  rw [e]
  exact hus.mono (.of s1)
theorem ok_once (F : Fun K "_law_once" "_law_once" s_law_once f fd) : FnOk P w K mg base CX0 1 f fd ["_law_names_here"] spOnce := by
  refine F.ok sc_law_once (fun vs H Q E h => ?_) (fun cdv A outer s H vs Q E hr h => ?_)
  · obtain ⟨ns, p, rfl, _⟩ := h
    rfl
  obtain ⟨ns, p, rfl, hp, hz, k⟩ := h
  refine ⟨_, (pss_cons (ps_set (i := 1) sc_law_once.nd rfl (Or.inl rfl) (pe_lst pa_nil))
    (pss_cons (ps_for PassesOwn.never rfl (pi_list (pv 0)) (pg_name (i := 2) sc_law_once.nd rfl (Or.inl rfl)) (pss_one (ps_if (pt_cmpR notInS (pv 2) (pv 1) (by rfl)) (pss_one (ps_expr (pe_bm PySem.F.plainAttrs_list PySem.F.slot_list_append PySem.F.type_list_append mt_append (pv 1) (pa_cons (pv 2) pa_nil)))) pss_nil)))
    (pss_one (ps_ret (pv 1))))), ?_⟩
  refine ⟨Nat.zero_le _, fun q hq => ?_⟩
  have s1 := same_new hq (HO.lst [])
  have e1 : (upd H q (.lst [])) q = some (.lst []) := upd_same
  have hp1 := s1 _ _ hp
  have npq : p ≠ q := ne_of_none hp hq
  generalize hH1 : upd H q (.lst []) = H1 at s1 e1 hp1 ⊢
  have hqH : H q = none := hq
  refine ⟨_, rfl, p, rfl, ⟨_, SqL.of hp1⟩, for_list (xs := ns.map V.str) (fun i σ H' => ∃ (y : Option V), σ = [some (V.ref p), some (V.ref q), y] ∧ Kb q H1 H' ∧ H' q = some (.lst ((once [] (ns.take i)).map V.str)))
    ⟨none, rfl, Kb.refl _ _, by rw [List.take_zero]; exact e1⟩ (fun i σ H' _ ⟨_, _, kb, _⟩ => SqL.of (kb _ _ npq hp1)) ?_ ?_⟩
  · rintro i z σ H' hz' ⟨y, rfl, kb, hH⟩
    obtain ⟨nme, hn, rfl⟩ : ∃ nme, ns[i]? = some nme ∧ z = V.str nme := by
      rw [List.getElem?_map] at hz'
      cases e : ns[i]? with
      | none => rw [e] at hz'; cases hz'
      | some q => rw [e] at hz'; exact ⟨q, rfl, (Option.some.inj hz').symm⟩
    have e1 := take_succ hn
    have hi : i < ns.length := (List.getElem?_eq_some_iff.mp hn).1
    refine ⟨_, rfl, _, rfl, nme, q, _, rfl, rfl, .inl hH, _, rfl, ?_⟩
    by_cases c : nme ∈ once [] (ns.take i)
    · refine ifF (by rw [decide_eq_true c]; rfl) ⟨_, rfl, kb, ?_⟩
      rw [e1, once_snoc, if_pos c]
      exact hH
    · have hle := once_len (ns.take i) []
      have hti : (ns.take i).length ≤ ns.length := by rw [List.length_take]; omega
      refine ifT (by rw [decide_eq_false c]; rfl) ⟨_, rfl, .inl ⟨rfl, _, SqL.of hH⟩, _, rfl, q, _, _, rfl, rfl, hH, small_line (by rw [List.length_map]; rw [List.length_nil] at hle; omega), ?_⟩
      refine ⟨_, rfl, kb.trans (Kb.put _ _ _), ?_⟩
      rw [upd_same, e1, once_snoc, if_neg c, List.map_append]
      rfl
  · rintro σ H2 ⟨y, rfl, kb, hH⟩
    rw [List.length_map, List.take_length] at hH
    exact ⟨_, rfl, k q H2 (kb.same s1 hqH) hH⟩
theorem ok_seen (F : Fun K "_law_seen" "_law_seen" s_law_seen f fd) (B : Blt mg) : FnOk P w K mg base CX0 1 f fd ["_law_row", "_law_names_here"] spSeen := by
  refine F.ok sc_law_seen (fun vs H Q E h => ?_) (fun cdv A outer s H vs Q E hr h => ?_)
  · obtain ⟨o, ns, v, p, rfl, _⟩ := h
    rfl
  obtain ⟨o, ns, v, p, rfl, hv, hp, hz, k⟩ := h
  obtain ⟨oa, rfl, hoa⟩ := at_tS.mp hv
  refine ⟨_, (pss_one (ps_ret (pe_callTy cr_tuple (by rfl) B.tuple (by decide +kernel) (pa_cons (pe_lc (own := [("_law_name", 2)]) (g := (gName 2)) rfl sc_law_seen.nd (pi_list (pv 1)) (blkOk_by (own := [("_law_name", 2)]) (N := n_law_seen) (sc := defScope s_law_seen) (by decide +kernel)) (fun _ _ _ _ _ => (pg_name (i := 2) sc_law_seen.nd rfl (Or.inl rfl))) (fun _ _ _ _ _ => (pts_one (pt_cmpR inS (pv 2) (pv 0) (by rfl)))) (fun _ _ _ _ _ => (pv 2))) pa_nil)))), ?_⟩
  refine ⟨_, rfl, p, rfl, ⟨_, SqL.of hp⟩, fun D hD => lcL (cs := ns) T.s (fmIf (fun x => decide (x ∈ o)) T.s) hp Ats.of (by omega) hD (fun x hx => ?_) fun H2 ys s2 hys hat => ?_⟩
  · intro v H' hv s' Qy Qn ky kn
    obtain rfl : v = V.str x := hv
    refine ⟨rfl, ⟨_, rfl, _, rfl, x, oa, o, rfl, rfl, .inr (s' _ _ hoa), _, rfl, ?_⟩⟩
    by_cases hm : x ∈ o
    · exact ifT (decide_eq_true hm) ⟨_, rfl, ky (T.s x) _ _ (fm_yes (decide_eq_true hm)) (Same.refl _) rfl⟩
    · exact ifF (decide_eq_false hm) (kn _ (fm_no (decide_eq_false hm)) (Same.refl _))
  · rw [fm_if] at hat
    refine ⟨D, ys, rfl, hys, fun l hl => ?_⟩
    exact k _ _ (s2.trans (same_new hl _)) (at_tup (hat.mono (.of (same_new hl _))) upd_same)
theorem ok_all (F : Fun K "_law_all" "_law_all" s_law_all f fd) (B : Blt mg) : FnOk P w K mg base CX0 1 f fd ["_law_names_here"] spAllO := by
  refine F.ok sc_law_all (fun vs H Q E h => ?_) (fun cdv A outer s H vs Q E hr h => ?_)
  · obtain ⟨ns, p, rfl, _⟩ := h
    rfl
  obtain ⟨ns, p, rfl, hp, h6, k⟩ := h
  refine ⟨_, (pss_cons (ps_set (i := 1) sc_law_all.nd rfl (Or.inl rfl) (pe_lst (pa_cons (pe_tup pa_nil) pa_nil)))
    (pss_cons (ps_for PassesOwn.never rfl (pi_reversed (by rfl) B.reversed (pa_cons (pe_callTy cr_list (by rfl) B.list (by decide +kernel) (pa_cons (pv 0) pa_nil)) pa_nil)) (pg_name (i := 2) sc_law_all.nd rfl (Or.inr rfl)) (pss_one (ps_set (i := 1) sc_law_all.nd rfl (Or.inl rfl) (pe_op op_cat (pe_lc (own := [("_law_row", 3)]) (g := (gName 3)) rfl sc_law_all.nd (pi_list (pv 1)) (blkOk_by (own := [("_law_row", 3)]) (N := n_law_all) (sc := defScope s_law_all) (by decide +kernel)) (fun _ _ _ _ _ => (pg_name (i := 3) sc_law_all.nd rfl (Or.inl rfl))) (fun _ _ _ _ _ => pts_nil) (fun _ _ _ _ _ => (pe_op catA0 (pe_tup (pa_cons (pv 2) pa_nil)) (pv 3)))) (pv 1)))))
    (pss_one (ps_ret (pv 1))))), ?_⟩
  refine ⟨Nat.zero_le _, fun p0 hp0 => ⟨(by show 1 ≤ sizeLine; decide), fun p1 hp1 => ?_⟩⟩
  have s0 := same_new hp0 (.tup [])
  have s1 := s0.trans (same_new hp1 (.lst [V.ref p0]))
  have e0 : (upd (upd H p0 (.tup [])) p1 (.lst [V.ref p0])) p0 = some (.tup []) := same_new hp1 _ _ _ upd_same
  have e1 : (upd (upd H p0 (.tup [])) p1 (.lst [V.ref p0])) p1 = some (.lst [V.ref p0]) := upd_same
  generalize upd (upd H p0 (.tup [])) p1 (.lst [V.ref p0]) = H1 at s1 e0 e1 ⊢
  refine ⟨_, rfl, p, _, rfl, hp.mono s1, fun l hl => ?_⟩
  have s2 := s1.trans (same_new hl (.lst (ns.map V.str)))
  have e2 := same_new hl (.lst (ns.map V.str)) _ _ e1
  have e3 := same_new hl (.lst (ns.map V.str)) _ _ e0
  have el : (upd H1 l (.lst (ns.map V.str))) l = some (.lst (ns.map V.str)) := upd_same
  generalize upd H1 l (.lst (ns.map V.str)) = H2 at s2 e2 e3 el ⊢
  refine ⟨l, _, rfl, SqL.of el, RT.for_Itv (xs := ns.map V.str) (fun i σ H' => ∃ (q : Addr) (ys : List V) (x y : Option V), σ = [some (V.ref p), some (V.ref q), x, y] ∧ Same H2 H' ∧ H' q = some (.lst ys) ∧ Ats H' ((allO (ns.drop (ns.length - i))).map tS) ys)
    ⟨p1, _, none, none, rfl, Same.refl _, e2, ?_⟩ (fun i σ H' ⟨_, _, _, _, _, s, _⟩ => SqL.of (s _ _ el)) ?_ ?_⟩
  · rw [Nat.sub_zero, List.drop_length]
    exact .cons (at_tup (ts := []) .nil e3) .nil
  · rintro i v σ H' hi hv ⟨q, ys, x, y, rfl, s3, hq, hat⟩
    rw [List.length_map] at hi hv
    obtain ⟨nme, hn, rfl⟩ : ∃ nme, ns[ns.length - 1 - i]? = some nme ∧ v = V.str nme := by
      rw [List.getElem?_map] at hv
      cases e : ns[ns.length - 1 - i]? with
      | none => rw [e] at hv; cases hv
      | some z => rw [e] at hv; exact ⟨z, rfl, (Option.some.inj hv).symm⟩
    have ed : ns.drop (ns.length - (i + 1)) = nme :: ns.drop (ns.length - i) := by
      have hlt : ns.length - (i + 1) < ns.length := by omega
      rw [List.drop_eq_getElem_cons hlt]
      have e1 : ns.length - (i + 1) + 1 = ns.length - i := by omega
      have e2 : ns.length - (i + 1) = ns.length - 1 - i := by omega
      rw [e1]
      congr 1
      rw [List.getElem?_eq_some_iff] at hn
      obtain ⟨_, hn⟩ := hn
      rw [← hn]
      congr 1
    have hlen : (allO (ns.drop (ns.length - i))).length ≤ 64 := by
      rw [allO_length]
      exact pow6 (by rw [List.length_drop]; omega)
    have hyl : ys.length ≤ 64 := by rw [hat.len, List.length_map]; exact hlen
    refine ⟨_, rfl, q, rfl, ⟨_, SqL.of hq⟩, fun D hD => lcL (cs := allO (ns.drop (ns.length - i))) tS (fun o => some (tS (nme :: o))) hq hat (by omega) hD (fun o ho => ?_) fun H4 zs s4 hz hzat => ?_⟩
    · intro v H5 hv s5 Qy Qn ky kn
      obtain ⟨oa, rfl, hoa⟩ := at_tS.mp hv
      refine ⟨rfl, ?_⟩
      refine ⟨_, rfl, (by show 1 ≤ sizeLine; decide), fun t ht => ⟨_, rfl, t, oa, _, _, rfl, rfl, upd_same, same_new ht _ _ _ hoa, ?_, fun r H6 s6 hr6 => ?_⟩⟩
      · have hsl := mem_allO.mp ho
        have := hsl.length_le
        rw [List.length_drop] at this
        rw [List.length_map, List.length_singleton]
        exact Nat.le_of_lt (small_line (by omega))
      · exact ky (tS (nme :: o)) _ _ rfl ((same_new ht _).trans s6) (at_tS.mpr ⟨r, rfl, hr6⟩)
    · rw [fm_map] at hzat
      have hzl : zs.length ≤ 64 := by rw [hzat.len, List.length_map]; exact hlen
      refine ⟨_, rfl, D, q, zs, ys, rfl, rfl, hz, s4 _ _ hq, Nat.le_of_lt (small_line (by omega)), fun r hr' => ?_⟩
      have s6 := same_new hr' (.lst (zs ++ ys))
      refine ⟨r, _, _, y, rfl, s3.trans (s4.trans s6), upd_same, ?_⟩
      rw [ed, allO_cons, List.map_append, List.map_map]
      exact (hzat.mono (.of s6)).app (hat.mono (.of (s4.trans s6)))
  · rintro σ H' ⟨q, ys, x, y, rfl, s3, hq, hat⟩
    rw [List.length_map, Nat.sub_self, List.drop_zero] at hat
    exact ⟨_, rfl, k q ys H' (s2.trans s3) hq hat⟩
theorem ok_extended (F : Fun K "_law_extended" "_law_extended" s_law_extended f fd) (D_all : Def P w K mg base CX0 1 "_law_all" ["_law_names_here"] spAllO) : FnOk P w K mg base CX0 2 f fd ["_law_worlds_here", "_law_fresh"] spExt := by
  refine F.ok sc_law_extended (fun vs H Q E h => ?_) (fun cdv A outer s H vs Q E hr h => ?_)
  · obtain ⟨W, ns, wp, np, wv, rfl, _⟩ := h
    rfl
  obtain ⟨W, ns, wp, np, wv, rfl, hwp, hwv, hwl, hw64, hnp, hn6, k⟩ := h
  refine ⟨_, (pss_cons (ps_set (i := 2) sc_law_extended.nd rfl (Or.inl rfl) (pe_lst pa_nil))
    (pss_cons (ps_for PassesOwn.never rfl (pi_list (pe_callD D_all (hr.mono (by omega)) (by rfl) pass0 (pa_cons (pv 1) pa_nil))) (pg_name (i := 3) sc_law_extended.nd rfl (Or.inr rfl)) (pss_one (ps_set (i := 2) sc_law_extended.nd rfl (Or.inl rfl) (pe_op op_cat (pv 2) (pe_lc (own := [("_law_world", 4)]) (g := (gName 4)) rfl sc_law_extended.nd (pi_list (pv 0)) (blkOk_by (own := [("_law_world", 4)]) (N := n_law_extended) (sc := defScope s_law_extended) (by decide +kernel)) (fun _ _ _ _ _ => (pg_name (i := 4) sc_law_extended.nd rfl (Or.inl rfl))) (fun _ _ _ _ _ => pts_nil) (fun _ _ _ _ _ => (pe_op catA0 (pv 4) (pv 3))))))))
    (pss_one (ps_ret (pv 2))))), ?_⟩
  refine ⟨Nat.zero_le _, fun p0 hp0 => ?_⟩
  have s1 := same_new hp0 (HO.lst [])
  have e1 : (upd H p0 (.lst [])) p0 = some (.lst []) := upd_same
  generalize upd H p0 (.lst []) = H1 at s1 e1 ⊢
  refine ⟨_, rfl, ns, np, rfl, .inl (s1 _ _ hnp), hn6, fun rp rv H2 s2 hrp hrv => ?_⟩
  have hAL : (allO ns).length ≤ 64 := by rw [allO_length]; exact pow6 hn6
  have rlen : rv.length = (allO ns).length := by rw [hrv.len, List.length_map]
  have s12 := s1.trans s2
  refine ⟨rp, rfl, ⟨_, SqL.of hrp⟩, for_list (xs := rv) (fun i σ H' => ∃ (q : Addr) (ys : List V) (y : Option V), σ = [some (V.ref wp), some (V.ref np), some (V.ref q), y, none] ∧ Same H2 H' ∧ H' q = some (.lst ys) ∧ Ats H' ((((allO ns).take i).flatMap fun r => W.map (· ++ r)).map tS) ys)
    ⟨p0, [], none, rfl, Same.refl _, s2 _ _ e1, by rw [List.take_zero]; exact .nil⟩ (fun i σ H' _ ⟨_, _, _, _, s', _⟩ => SqL.of (s' _ _ hrp)) ?_ ?_⟩
  · rintro i z σ H' hz ⟨q, ys, y, rfl, s', hq, hys⟩
    obtain ⟨r, hr', hat⟩ := hrv.getE hz
    have hi : i < (allO ns).length := (List.getElem?_eq_some_iff.mp hr').1
    obtain ⟨ra, rfl, hra⟩ := at_tS.mp (hat.mono (.of s'))
    have hrl : r.length ≤ 6 := Nat.le_trans (mem_allO.mp (List.mem_of_getElem? hr')).length_le hn6
    have hyl : ys.length ≤ i * 64 := by
      have h := flat_len (fun r => W.map (· ++ r)) 64 ((allO ns).take i) fun r _ => by rw [List.length_map]; exact hw64
      have h2 : ((allO ns).take i).length ≤ i := by rw [List.length_take]; omega
      have h3 := Nat.mul_le_mul_right 64 h2
      rw [hys.len, List.length_map]
      omega
    refine ⟨_, rfl, _, rfl, wp, rfl, ⟨_, SqL.of (s' _ _ (s12 _ _ hwp))⟩, fun D hD => lcL (cs := W) tS (fun o => some (tS (o ++ r))) (s' _ _ (s12 _ _ hwp)) (hwv.mono (.of (s12.trans s'))) (by omega) hD (fun o ho => ?_) fun H4 zs s4 hz' hzat => ?_⟩
    · intro v H5 hv s5 Qy Qn ky kn
      obtain ⟨oa, rfl, hoa⟩ := at_tS.mp hv
      refine ⟨rfl, ⟨_, rfl, _, rfl, oa, ra, _, _, rfl, rfl, hoa, s5 _ _ hra, ?_, fun t H6 s6 hr6 => ?_⟩⟩
      · have := hwl o ho
        rw [List.length_map, List.length_map]
        exact Nat.le_of_lt (small_line (by omega))
      · exact ky _ _ _ rfl s6 (at_tS.mpr ⟨t, rfl, by rw [List.map_append]; exact hr6⟩)
    · rw [fm_map] at hzat
      have hzl : zs.length ≤ 64 := by rw [hzat.len, List.length_map]; exact hw64
      refine ⟨q, D, ys, zs, rfl, rfl, s4 _ _ hq, hz', Nat.le_of_lt (small_line (by omega)), fun l hl => ?_⟩
      have s6 := same_new hl (.lst (ys ++ zs))
      refine ⟨l, _, _, rfl, s'.trans (s4.trans s6), upd_same, ?_⟩
      rw [take_cat (fun r => W.map (· ++ r)) hr', List.map_append, List.map_map]
      exact (hys.mono (.of (s4.trans s6))).app (hzat.mono (.of s6))
  · rintro σ H' ⟨q, ys, y, rfl, s', hq, hys⟩
    rw [rlen, List.take_length] at hys
    exact ⟨_, rfl, k q ys H' (s12.trans s') hq hys⟩
end
end K49
namespace K49
open PySem PySem.Spec PyProof.Rows L2
/-! ### a tuple of texts in a list of such -/
theorem all_same : ∀ o o' : List PySem.Str, ((List.range (min o'.length o.length)).all (fun j => decide (o'.getD j (PySem.Str.ofString "") = o.getD j (PySem.Str.ofString ""))) && o'.length == o.length) = decide (o' = o)
  | [], [] => rfl
  | [], _ :: _ => by simp
  | _ :: _, [] => by simp
  | x :: o, y :: o' => by
    have ih := all_same o o'
    have e1 : min (y :: o').length (x :: o).length = min o'.length o.length + 1 := by simp only [List.length_cons]; omega
    have e2 : ((y :: o').length == (x :: o).length) = (o'.length == o.length) := by simp
    rw [e1, e2, List.range_succ_eq_map, List.all_cons, List.all_map, Bool.and_assoc]
    have e3 : ((fun j => decide ((y :: o').getD j (PySem.Str.ofString "") = (x :: o).getD j (PySem.Str.ofString ""))) ∘ Nat.succ) = fun j => decide (o'.getD j (PySem.Str.ofString "") = o.getD j (PySem.Str.ofString "")) := rfl
    rw [e3, ih]
    simp only [List.getD_cons_zero, List.cons.injEq]
    exact (Bool.decide_and (y = x) (o' = o)).symm
section
variable {X : Cx}
theorem eqAt_tS {pins : List (Addr × Obj)} {σ : L2.St} {H : Hp} {s : Shared} (I : Inv X pins σ H s) {a b : Addr} {o o' : List PySem.Str} (ha : H a = some (.tup (o'.map V.str))) (hb : H b = some (.tup (o.map V.str))) {A : Around} (hu : A.units < cLine) :
    SeqAt.EqAt A s (.ref a) (.ref b) (decide (o' = o)) := by
  by_cases e : a = b
  · subst e
    rw [ha] at hb
    have h1 : o'.map V.str = o.map V.str := by
      have h2 := Option.some.inj hb
      injection h2
    have h2 : o' = o := by
      refine (List.map_inj_right fun x y h => ?_).mp h1
      injection h
    rw [decide_eq_true h2]
    exact SeqAt.EqAt.same _
  · obtain ⟨its, rv, it, _⟩ := I.tuple (SqT.of ha)
    obtain ⟨its2, rv2, it2, _⟩ := I.tuple (SqT.of hb)
    have l1 : its.length = o'.length := by rw [← rv.length, List.length_map]
    have l2 : its2.length = o.length := by rw [← rv2.length, List.length_map]
    have h := SeqAt.RcAt.tuples (A := A) (s := s) (l := a) (b := b) (e := fun j => decide (o'.getD j (PySem.Str.ofString "") = o.getD j (PySem.Str.ofString ""))) it it2 hu fun j j1 j2 => ?_
    · rw [List.size_toArray, List.size_toArray, l1, l2, all_same] at h
      exact SeqAt.EqAt.of_refs e h
    · simp only [List.size_toArray] at j1 j2
      have k1 : (o'.map V.str)[j]? = some (V.str (o'.getD j (PySem.Str.ofString ""))) := by
        rw [List.getElem?_map, List.getElem?_eq_getElem (by omega), List.getD_eq_getElem?_getD, List.getElem?_eq_getElem (by omega)]
        rfl
      have k2 : (o.map V.str)[j]? = some (V.str (o.getD j (PySem.Str.ofString ""))) := by
        rw [List.getElem?_map, List.getElem?_eq_getElem (by omega), List.getD_eq_getElem?_getD, List.getElem?_eq_getElem (by omega)]
        rfl
      obtain ⟨u1, q1, t1, e1⟩ := rv.get k1
      obtain ⟨u2, q2, t2, e2⟩ := rv2.get k2
      have g1 : its.toArray[j] = u1 := by
        rw [List.getElem_toArray]
        exact (List.getElem?_eq_some_iff.mp q1).2
      have g2 : its2.toArray[j] = u2 := by
        rw [List.getElem_toArray]
        exact (List.getElem?_eq_some_iff.mp q2).2
      rw [g1, g2, e1, e2]
      have z := SeqAt.EqAt.str_str (A := A.in1) (s := s) (o'.getD j (PySem.Str.ofString "")) t1 (o.getD j (PySem.Str.ofString "")) t2
      have ez : ((o'.getD j (PySem.Str.ofString "")) == (o.getD j (PySem.Str.ofString ""))) = decide (o'.getD j (PySem.Str.ofString "") = o.getD j (PySem.Str.ofString "")) := by
        by_cases hh : o'.getD j (PySem.Str.ofString "") = o.getD j (PySem.Str.ofString "")
        · rw [decide_eq_true hh, hh]
          exact beq_self_eq_true _
        · rw [decide_eq_false hh]
          exact beq_eq_false_iff_ne.mpr hh
      rw [ez] at z
      exact z
def rInT : R2 := fun x y H Q => ∃ (a b : Addr) (o : List PySem.Str) (os : List (List PySem.Str)) (vs : List V), x = V.ref a ∧ y = V.ref b ∧ H a = some (.tup (o.map V.str)) ∧ H b = some (.lst vs) ∧ Ats H (os.map tS) vs ∧ Q (.bl (decide (o ∈ os))) H
theorem inT (hu : X.A.units + 65 < cLine) : OpR X (compareOp .In) rInT := by
  intro pins s σ H x y v u Q I rx ry ⟨a, b, o, os, vs, e1, e2, ha, hb, hat, q⟩
  subst e1 e2
  cases rx
  cases ry
  obtain ⟨its, rv, p, _⟩ := I.list (SqL.of hb)
  have each : ∀ (i : Nat) (o' : List PySem.Str), os[i]? = some o' → ∃ c, its[i]? = some (.ref c) ∧ H c = some (.tup (o'.map V.str)) := fun i o' hi => by
    obtain ⟨w', hw, hat'⟩ := hat.get' (i := i) (t := tS o') (by rw [List.getElem?_map, hi]; rfl)
    obtain ⟨c, rfl, hc⟩ := at_tS.mp hat'
    obtain ⟨u, hu, ru⟩ := rv.get hw
    exact ⟨c, by rw [hu]; exact congrArg some ru, hc⟩
  have len : its.length = os.length := by
    have h1 := hat.len
    have h2 := rv.length
    rw [List.length_map] at h1
    omega
  have inj : ∀ {o1 o2 : List PySem.Str}, o1.map V.str = o2.map V.str → o1 = o2 := fun h => (List.map_inj_right fun x y h => by injection h).mp h
  classical
  refine SeqAt.in_listAt (fun z => decide (∃ c, z = .ref c ∧ H c = some (.tup (o.map V.str)))) p.isList (fun z hz => ?_) ?_
  · have hz' : z ∈ its := by simpa using hz
    obtain ⟨i, hi, e⟩ := List.mem_iff_getElem.mp hz'
    have hio : i < os.length := by omega
    obtain ⟨c, hc, hcH⟩ := each i os[i] (List.getElem?_eq_getElem hio)
    have ez : z = .ref c := by
      rw [List.getElem?_eq_getElem hi, e] at hc
      exact Option.some.inj hc
    subst ez
    have h := eqAt_tS I (A := X.A.in1) hcH ha (by show X.A.units + 1 < cLine; omega)
    have ed : decide (∃ c', Value.ref c = .ref c' ∧ H c' = some (.tup (o.map V.str))) = decide (os[i] = o) := by
      refine decide_eq_decide.mpr ⟨?_, fun h => ⟨c, rfl, by rw [← h]; exact hcH⟩⟩
      rintro ⟨c', e', h'⟩
      cases e'
      rw [hcH] at h'
      have h2 := Option.some.inj h'
      injection h2 with h3
      exact inj h3
    show SeqAt.EqAt X.A.in1 s (.ref c) (.ref a) (decide (∃ c', Value.ref c = .ref c' ∧ H c' = some (.tup (o.map V.str))))
    rw [ed]
    exact h
  · refine ⟨.bl _, H, I, rfl, ?_⟩
    have e : its.toArray.any (fun z => decide (∃ c, z = .ref c ∧ H c = some (.tup (o.map V.str)))) = decide (o ∈ os) := by
      rw [List.any_toArray]
      refine Bool.eq_iff_iff.mpr ?_
      rw [List.any_eq_true, decide_eq_true_iff]
      constructor
      · rintro ⟨z, hz, hd⟩
        obtain ⟨c, rfl, hc⟩ := of_decide_eq_true hd
        obtain ⟨i, hi, e⟩ := List.mem_iff_getElem.mp hz
        have hio : i < os.length := by omega
        obtain ⟨c', hc', hcH⟩ := each i os[i] (List.getElem?_eq_getElem hio)
        rw [List.getElem?_eq_getElem hi, e] at hc'
        have h2 := Option.some.inj hc'
        injection h2 with h2
        subst h2
        rw [hc] at hcH
        have h3 := Option.some.inj hcH
        injection h3 with h3
        rw [inj h3]
        exact List.getElem_mem _
      · intro h
        obtain ⟨i, hi, e⟩ := List.mem_iff_getElem.mp h
        obtain ⟨c, hc, hcH⟩ := each i o (by rw [List.getElem?_eq_getElem hi, e])
        exact ⟨.ref c, List.mem_of_getElem? hc, decide_eq_true ⟨c, rfl, hcH⟩⟩
    rw [e]
    exact q
theorem w_pi_list (K : PySem.W.Frag) (hK : X.K = K) {tg l : Expr} {tl : TE} (hl : PE X l tl) : PI X tg l (iList K tl) := by
  subst hK
  exact pi_list hl
end
abbrev s_law_known : Stmt := top 30
abbrev n_law_known : List PySem.Str := ["_law_names_here", "_law_worlds_here", "_law_counts", "_law_decided", "_law_kept", "_law_seen_here", "_law_name", "_law_world", "_law_pair", "_law_row"]
theorem sc_law_known : FnScope n_law_known ["_law_names_here", "_law_worlds_here"] (defScope s_law_known) := ⟨rfl, rfl, rfl, by decide +kernel, rfl, by decide +kernel, by decide +kernel⟩
theorem un65 {k : Nat} {A : Around} (hr : Room k A) : A.units + 65 < cLine := by
  have := hr.un
  omega
abbrev scIn : Scope := { kind := .function, names := [(PySem.Str.ofString ".0", .local), (PySem.Str.ofString "_law_name", .cell), (PySem.Str.ofString "len", .globalImplicit), (PySem.Str.ofString "_law_worlds_here", .free)], isGenerator := false, isCoroutine := false }
def cntT (W : List (List PySem.Str)) (x : PySem.Str) : T := .t [.s x, .i (cnt W x)]
theorem at_ci {H : Hp} {W : List (List PySem.Str)} {x : PySem.Str} {v : V} (h : At H (cntT W x) v) : ∃ t, v = V.ref t ∧ H t = some (.tup [V.str x, V.int (cnt W x : Int)]) := by
  obtain ⟨t, vs, rfl, ht, a, r1, rfl, ha, b, r2, rfl, hb, h2⟩ := h
  obtain rfl : r2 = [] := h2
  rw [show a = V.str x from ha, show b = V.int (cnt W x : Int) from hb] at ht
  exact ⟨t, rfl, ht⟩
theorem ci_at {H : Hp} {W : List (List PySem.Str)} {x : PySem.Str} {t : Addr} (h : H t = some (.tup [V.str x, V.int (cnt W x : Int)])) : At H (cntT W x) (V.ref t) :=
  ⟨t, _, rfl, h, .cons rfl (.cons rfl .nil)⟩
def spKnown : Sp := fun vs H Q _ => ∃ (ns : List PySem.Str) (W : List (List PySem.Str)) (np wp : Addr) (wv : List V), vs = [V.ref np, V.ref wp] ∧ H np = some (.lst (ns.map V.str)) ∧ H wp = some (.lst wv) ∧ Ats H (W.map tS) wv ∧ ns.length ≤ 6 ∧ W.length ≤ 1000 ∧
  ∀ (r : V) H', Same H H' → At H' (knT (kn leS ns W)) r → Q r H'
section
variable {P : Program} {w : World} {K : PySem.W.Frag} {mg : PySem.Str → Option Value} {base : Heap} {f : Addr} {fd : FuncData}
theorem ok_known (F : Fun K "_law_known" "_law_known" s_law_known f fd) (B : Blt mg) (D_all : Def P w K mg base CX0 1 "_law_all" ["_law_names_here"] spAllO) (D_seen : Def P w K mg base CX0 1 "_law_seen" ["_law_row", "_law_names_here"] spSeen) : FnOk P w K mg base CX0 2 f fd ["_law_names_here", "_law_worlds_here"] spKnown := by
  refine F.ok sc_law_known (fun vs H Q E h => ?_) (fun cdv A outer s H vs Q E hr h => ?_)
  · obtain ⟨ns, W, np, wp, wv, rfl, _⟩ := h
    rfl
  obtain ⟨ns, W, np, wp, wv, rfl, hnp, hwp, hwv, h6, hW, k⟩ := h
  have wlen : wv.length = W.length := by rw [hwv.len, List.length_map]
  refine ⟨_, (pss_cons (ps_setLc (i := 2) (own := [("_law_name", 6)]) (g := (gName 6)) rfl sc_law_known.nd rfl rfl (sw_true rfl rfl rfl (by decide +kernel)) (pi_list (pe_callB cr_sortL (by rfl) B.sorted (by decide +kernel) (pa_cons (pv 0) pa_nil))) (blkOk_by (own := [("_law_name", 6)]) (N := n_law_known) (sc := defScope s_law_known) (by decide +kernel)) (fun _ _ _ _ _ => (pg_name (i := 6) sc_law_known.nd rfl (Or.inr rfl))) (fun _ _ _ _ _ => pts_nil) (fun _ _ _ _ _ => (pe_tup (pa_cons (pv 6) (pa_cons (pe_callB cr_len (by rfl) B.len (by decide +kernel) (pa_cons (pe_lc (own := [("_law_world", 7)]) (g := (gName 7)) rfl sc_law_known.nd (w_pi_list K rfl (pv 1)) (blkOk_by (own := [("_law_world", 7)]) (N := n_law_known) (sc := relS scIn (defScope s_law_known)) (by decide +kernel)) (fun _ _ _ _ _ => (pg_name (i := 7) sc_law_known.nd rfl (Or.inl rfl))) (fun _ _ _ _ _ => (pts_one (pt_cmpR inS (pv 6) (pv 7) (by rfl)))) (fun _ _ _ _ _ => (pv 7))) pa_nil)) pa_nil)))))
    (pss_cons (ps_setLc (i := 3) (own := [("_law_pair", 8)]) (g := (gName 8)) rfl sc_law_known.nd rfl rfl (sw_true rfl rfl rfl (by decide +kernel)) (pi_list (pv 2)) (blkOk_by (own := [("_law_pair", 8)]) (N := n_law_known) (sc := defScope s_law_known) (by decide +kernel)) (fun _ _ _ _ _ => (pg_name (i := 8) sc_law_known.nd rfl (Or.inl rfl))) (fun _ _ _ _ _ => (pts_one (pt_cmpR inI (pe_ix ixT0 (pv 8) pe_int (fun _ _ => rfl)) (pe_tup (pa_cons pe_int (pa_cons (pe_callB cr_len (by rfl) B.len (by decide +kernel) (pa_cons (pv 1) pa_nil)) pa_nil))) (by rfl)))) (fun _ _ _ _ _ => (pe_tup (pa_cons (pe_ix ixT0 (pv 8) pe_int (fun _ _ => rfl)) (pa_cons (pe_cmpR op_gt (pe_ix ixT0 (pv 8) pe_int (fun _ _ => rfl)) pe_int (nomark _)) pa_nil)))))
    (pss_cons (ps_set (i := 4) sc_law_known.nd rfl (Or.inr rfl) (pe_lc (own := [("_law_pair", 8)]) (g := (gName 8)) rfl sc_law_known.nd (pi_list (pv 2)) (blkOk_by (own := [("_law_pair", 8)]) (N := n_law_known) (sc := defScope s_law_known) (by decide +kernel)) (fun _ _ _ _ _ => (pg_name (i := 8) sc_law_known.nd rfl (Or.inl rfl))) (fun _ _ _ _ _ => (pts_one (pt_chain op_lt op_lt pe_int (pe_ix ixT0 (pv 8) pe_int (fun _ _ => rfl)) (pe_callB cr_len (by rfl) B.len (by decide +kernel) (pa_cons (pv 1) pa_nil))))) (fun _ _ _ _ _ => (pe_ix ixT0 (pv 8) pe_int (fun _ _ => rfl)))))
    (pss_cons (ps_set (i := 5) sc_law_known.nd rfl (Or.inr rfl) (pe_lc (own := [("_law_world", 7)]) (g := (gName 7)) rfl sc_law_known.nd (pi_list (pv 1)) (blkOk_by (own := [("_law_world", 7)]) (N := n_law_known) (sc := defScope s_law_known) (by decide +kernel)) (fun _ _ _ _ _ => (pg_name (i := 7) sc_law_known.nd rfl (Or.inl rfl))) (fun _ _ _ _ _ => pts_nil) (fun _ _ _ _ _ => (pe_callD D_seen (hr.mono (by omega)) (by rfl) pass0 (pa_cons (pv 7) (pa_cons (pv 4) pa_nil))))))
    (pss_one (ps_ret (pe_tup (pa_cons (pe_callTy cr_tuple (by rfl) B.tuple (by decide +kernel) (pa_cons (pv 3) pa_nil)) (pa_cons (pe_callTy cr_tuple (by rfl) B.tuple (by decide +kernel) (pa_cons (pv 4) pa_nil)) (pa_cons (pe_callTy cr_tuple (by rfl) B.tuple (by decide +kernel) (pa_cons (pe_lc (own := [("_law_row", 9)]) (g := (gName 9)) rfl sc_law_known.nd (pi_list (pe_callD D_all (hr.mono (by omega)) (by rfl) pass0 (pa_cons (pv 4) pa_nil))) (blkOk_by (own := [("_law_row", 9)]) (N := n_law_known) (sc := defScope s_law_known) (by decide +kernel)) (fun _ _ _ _ _ => (pg_name (i := 9) sc_law_known.nd rfl (Or.inl rfl))) (fun _ _ _ _ _ => (pts_one (pt_cmpR (inT (un65 hr)) (pv 9) (pv 5) (by rfl)))) (fun _ _ _ _ _ => (pv 9))) pa_nil)) pa_nil)))))))))), ?_⟩
  have hSl : (srt leS ns).length ≤ 6 := by rw [srt_length]; exact h6
  refine ⟨_, rfl, np, ns, rfl, hnp, by omega, fun p1 hp1 => ?_⟩
  have s1 := same_new hp1 (HO.lst ((srt leS ns).map V.str))
  have e1 : (upd H p1 (.lst ((srt leS ns).map V.str))) p1 = some (.lst ((srt leS ns).map V.str)) := upd_same
  generalize upd H p1 (.lst ((srt leS ns).map V.str)) = H1 at s1 e1 ⊢
  -- counts
  refine ⟨p1, rfl, ⟨_, SqL.of e1⟩, fun D1 hD1 => lcL (cs := srt leS ns) T.s (fun x => some (cntT W x)) e1 Ats.of (by omega) hD1 (fun x hx => ?_) fun H2 cv s2 hcv hcat => ?_⟩
  · intro v H' hv s' Qy Qn ky kn
    obtain rfl : v = V.str x := hv
    refine ⟨rfl, ?_⟩
    have hwp' := s' _ _ (s1 _ _ hwp)
    refine ⟨_, rfl, _, rfl, wp, rfl, ⟨_, SqL.of hwp'⟩, fun D hD => lcL (cs := W) tS (fmIf (fun o => decide (x ∈ o)) tS) hwp' (hwv.mono (.of (s1.trans s'))) hW hD (fun o ho => ?_) fun H3 ws s3 hws hwat => ?_⟩
    · intro v H5 hv s5 Qy Qn ky kn
      obtain ⟨oa, rfl, hoa⟩ := at_tS.mp hv
      refine ⟨rfl, ⟨_, rfl, _, rfl, x, oa, o, rfl, rfl, .inr hoa, _, rfl, ?_⟩⟩
      by_cases hm : x ∈ o
      · exact ifT (decide_eq_true hm) ⟨_, rfl, ky (tS o) _ _ (fm_yes (decide_eq_true hm)) (Same.refl _) hv⟩
      · exact ifF (decide_eq_false hm) (kn _ (fm_no (decide_eq_false hm)) (Same.refl _))
    · rw [fm_if] at hwat
      have ec : ws.length = cnt W x := by
        rw [hwat.len, List.length_map]
        rfl
      refine ⟨D, ws, rfl, .inl hws, two_line, fun t ht => ?_⟩
      rw [ec]
      exact ky (cntT W x) _ _ rfl (s3.trans (same_new ht _)) (ci_at upd_same)
  rw [fm_map] at hcat
  have s12 := s1.trans s2
  -- decided
  refine ⟨_, rfl, D1, rfl, ⟨_, SqL.of hcv⟩, fun D2 hD2 => lcL (cs := srt leS ns) (cntT W) (fmIf (fixd W) fun x => pairT (mark W x)) hcv hcat (by omega) hD2 (fun x hx => ?_) fun H3 dv s3 hdv hdat => ?_⟩
  · intro v H' hv s' Qy Qn ky kn
    obtain ⟨t, rfl, ht⟩ := at_ci hv
    refine ⟨rfl, ?_⟩
    refine ⟨_, rfl, t, _, 1, _, rfl, rfl, ht, at1, _, rfl, wp, _, rfl, .inl (s' _ _ (s12 _ _ hwp)), two_line, fun p hp => ⟨(cnt W x : Int), p, [0, (W.length : Int)], rfl, rfl, by rw [upd_same, wlen]; rfl, _, rfl, ?_⟩⟩
    have sp := same_new hp (HO.tup [V.int 0, V.int (wv.length : Int)])
    generalize upd H' p (.tup [V.int 0, V.int (wv.length : Int)]) = H4 at sp ⊢
    have ef : decide ((cnt W x : Int) ∈ [0, (W.length : Int)]) = fixd W x := by
      unfold fixd
      refine decide_eq_decide.mpr ?_
      simp only [List.mem_cons, List.not_mem_nil, or_false]
      omega
    rw [ef]
    refine ite2 (fun c => ?_) (fun c => ?_)
    · refine ⟨_, rfl, t, _, 0, _, rfl, rfl, sp _ _ ht, at0, _, rfl, t, _, 1, _, rfl, rfl, sp _ _ ht, at1, _, _, rfl, rfl, two_line, fun p2 hp2 => ?_⟩
      refine ky _ _ _ (fm_yes c) (sp.trans (same_new hp2 _)) (pair_at (p := mark W x) ?_)
      rw [upd_same]
      show some (HO.tup [V.str x, V.bl (decide (0 < (cnt W x : Int)))]) = some (HO.tup [V.str x, V.bl (decide (0 < cnt W x))])
      rw [show decide (0 < (cnt W x : Int)) = decide (0 < cnt W x) from decide_eq_decide.mpr (by omega)]
    · exact kn _ (fm_no (Bool.eq_false_iff.mpr c)) sp
  rw [fm_if] at hdat
  have s13 := s12.trans s3
  have hcv3 := s3 _ _ hcv
  have hcat3 := hcat.mono (.of s3)
  -- kept
  refine ⟨_, rfl, D1, rfl, ⟨_, SqL.of hcv3⟩, fun D3 hD3 => lcL (cs := srt leS ns) (cntT W) (fmIf (vary W) T.s) hcv3 hcat3 (by omega) hD3 (fun x hx => ?_) fun H4 kv s4 hkv hkat => ?_⟩
  · intro v H' hv s' Qy Qn ky kn
    obtain ⟨t, rfl, ht⟩ := at_ci hv
    refine ⟨rfl, ?_⟩
    refine ⟨_, rfl, t, _, 1, _, rfl, rfl, ht, at1, _, _, rfl, rfl, _, rfl, ?_⟩
    by_cases c0 : 0 < cnt W x
    · refine ifT (decide_eq_true (by omega)) ⟨_, rfl, wp, _, rfl, .inl (s' _ _ (s13 _ _ hwp)), _, _, rfl, rfl, _, rfl, ?_⟩
      by_cases c1 : cnt W x < W.length
      · refine ifT (decide_eq_true (by omega)) ⟨_, rfl, t, _, 0, _, rfl, rfl, ht, at0, ?_⟩
        exact ky (T.s x) _ _ (fm_yes (decide_eq_true ⟨c0, c1⟩)) (Same.refl _) rfl
      · exact ifF (decide_eq_false (by omega)) (kn _ (fm_no (decide_eq_false fun z => c1 z.2)) (Same.refl _))
    · exact ifF (decide_eq_false (by omega)) ⟨_, rfl, kn _ (fm_no (decide_eq_false fun z => c0 z.1)) (Same.refl _)⟩
  rw [fm_if] at hkat
  generalize hV : (srt leS ns).filter (vary W) = V1 at hkat
  have hVl : V1.length ≤ 6 := by
    rw [← hV]
    exact Nat.le_trans (List.length_filter_le _ _) hSl
  rw [Ats.strs.mp hkat] at hkv
  have s14 := s13.trans s4
  -- seen
  refine ⟨_, rfl, wp, rfl, ⟨_, SqL.of (s14 _ _ hwp)⟩, fun D4 hD4 => lcL (cs := W) tS (fun o => some (tS (seen V1 o))) (s14 _ _ hwp) (hwv.mono (.of s14)) hW hD4 (fun o ho => ?_) fun H5 sv s5 hsv hsat => ?_⟩
  · intro v H' hv s' Qy Qn ky kn
    exact ⟨rfl, ⟨_, rfl, _, rfl, o, V1, v, D3, rfl, hv, s' _ _ hkv, by omega, fun r Hr sr hr2 => ky _ _ _ rfl sr hr2⟩⟩
  rw [fm_map, show (W.map fun o => tS (seen V1 o)) = (W.map (seen V1)).map tS from by rw [List.map_map]; rfl] at hsat
  have s15 := s14.trans s5
  have hkv5 := s5 _ _ hkv
  -- the tuple
  refine ⟨_, rfl, D2, dv, rfl, s5 _ _ (s4 _ _ hdv), fun t1 ht1 => ⟨_, rfl, D3, _, rfl, same_new ht1 _ _ _ hkv5, fun t2 ht2 => ?_⟩⟩
  have g1 := same_new ht1 (HO.tup dv)
  have et1 : (upd H5 t1 (.tup dv)) t1 = some (.tup dv) := upd_same
  generalize upd H5 t1 (.tup dv) = H6 at g1 et1 ht2 ⊢
  have g2 := same_new ht2 (HO.tup (V1.map V.str))
  have et2 : (upd H6 t2 (.tup (V1.map V.str))) t2 = some (.tup (V1.map V.str)) := upd_same
  generalize upd H6 t2 (.tup (V1.map V.str)) = H7 at g2 et2 ⊢
  have g12 := g1.trans g2
  refine ⟨_, rfl, V1, D3, rfl, .inl (g12 _ _ hkv5), hVl, fun rp rv H8 s8 hrp hrat => ?_⟩
  have hAL : (allO V1).length ≤ 64 := by rw [allO_length]; exact pow6 hVl
  have g18 := g12.trans s8
  refine ⟨rp, rfl, ⟨_, SqL.of hrp⟩, fun D5 hD5 => lcL (cs := allO V1) tS (fmIf (fun r => decide (r ∈ W.map (seen V1))) tS) hrp hrat (by omega) hD5 (fun o ho => ?_) fun H9 pv9 s9 hpv hpat => ?_⟩
  · intro v H' hv s' Qy Qn ky kn
    obtain ⟨oa, rfl, hoa⟩ := at_tS.mp hv
    refine ⟨rfl, ⟨_, rfl, _, rfl, oa, D4, o, W.map (seen V1), sv, rfl, rfl, hoa, s' _ _ (g18 _ _ hsv), hsat.mono (.of (g18.trans s')), _, rfl, ?_⟩⟩
    by_cases hm : o ∈ W.map (seen V1)
    · exact ifT (decide_eq_true hm) ⟨_, rfl, ky (tS o) _ _ (fm_yes (decide_eq_true hm)) (Same.refl _) hv⟩
    · exact ifF (decide_eq_false hm) (kn _ (fm_no (decide_eq_false hm)) (Same.refl _))
  rw [fm_if] at hpat
  refine ⟨D5, pv9, rfl, hpv, fun t3 ht3 => ⟨(by show 3 ≤ sizeLine; decide), fun t4 ht4 => ?_⟩⟩
  have g3 := same_new ht3 (HO.tup pv9)
  have et3 : (upd H9 t3 (.tup pv9)) t3 = some (.tup pv9) := upd_same
  generalize upd H9 t3 (.tup pv9) = H10 at g3 et3 ht4 ⊢
  have g4 := same_new ht4 (HO.tup [V.ref t1, V.ref t2, V.ref t3])
  have g8 := s8.trans (s9.trans (g3.trans g4))
  refine k _ _ (s15.trans (g12.trans g8)) (at_tup (.cons ?_ (.cons ?_ (.cons ?_ .nil))) upd_same)
  · refine ⟨t1, dv, rfl, g8 _ _ (g2 _ _ et1), ?_⟩
    show Ats _ ((((srt leS ns).filter (fixd W)).map (mark W)).map pairT) dv
    rw [List.map_map]
    exact hdat.mono (.of (s4.trans (s5.trans (g12.trans g8))))
  · refine at_tS.mpr ⟨t2, rfl, ?_⟩
    show _ = some (HO.tup (((srt leS ns).filter (vary W)).map V.str))
    rw [hV]
    exact g8 _ _ et2
  · refine ⟨t3, pv9, rfl, g4 _ _ et3, ?_⟩
    show Ats _ (((allO ((srt leS ns).filter (vary W))).filter fun r => decide (r ∈ W.map (seen ((srt leS ns).filter (vary W))))).map tS) pv9
    rw [hV]
    exact hpat.mono (.of (g3.trans g4))
end
end K49
namespace K49
open PySem PySem.Spec PyProof.Rows L2
abbrev s_law_draw : Stmt := top 20
abbrev n_law_draw : List PySem.Str := ["_law_tape_here", "_law_many", "_law_cells", "_law_place", "_law_number"]
theorem sc_law_draw : FnScope n_law_draw ["_law_tape_here", "_law_many"] (defScope s_law_draw) := ⟨rfl, rfl, rfl, by decide +kernel, rfl, by decide +kernel, by decide +kernel⟩
abbrev s_law_tape : Stmt := top 19
abbrev n_law_tape : List PySem.Str := ["_law_script", "_law_total", "_law_cell"]
theorem sc_law_tape : FnScope n_law_tape ["_law_script"] (defScope s_law_tape) := ⟨rfl, rfl, rfl, by decide +kernel, rfl, by decide +kernel, by decide +kernel⟩
abbrev s_law_picked : Stmt := top 28
abbrev n_law_picked : List PySem.Str := ["_law_tape_here", "_law_rows", "_law_one", "_law_picked_here", "_law_row"]
theorem sc_law_picked : FnScope n_law_picked ["_law_tape_here", "_law_rows", "_law_one"] (defScope s_law_picked) := ⟨rfl, rfl, rfl, by decide +kernel, rfl, by decide +kernel, by decide +kernel⟩
abbrev s_law_worlds : Stmt := top 31
abbrev n_law_worlds : List PySem.Str := ["_law_tape_here", "_law_names_here", "_law_rows", "_law_share", "_law_picked_here"]
theorem sc_law_worlds : FnScope n_law_worlds ["_law_tape_here", "_law_names_here"] (defScope s_law_worlds) := ⟨rfl, rfl, rfl, by decide +kernel, rfl, by decide +kernel, by decide +kernel⟩
/-! ### the tape -/
structure TapeAt (H : Hp) (a c : Addr) (n : Nat) : Prop where
  ex : ∃ (cells : List Int) (p : Nat) (x y : Int), H a = some (.lst [V.ref c, V.int p, V.int x, V.int y]) ∧ H c = some (.lst (cells.map V.int)) ∧ p ≤ cells.length ∧ cells.length ≤ n
  ne : a ≠ c
theorem TapeAt.mono {H H' : Hp} {a c : Addr} {n m : Nat} (t : TapeAt H a c n) (s : Same H H') (h : n ≤ m) : TapeAt H' a c m := by
  obtain ⟨cells, p, x, y, h1, h2, h3, h4⟩ := t.ex
  exact ⟨⟨cells, p, x, y, s _ _ h1, s _ _ h2, h3, by omega⟩, t.ne⟩
theorem TapeAt.ts {H H' : Hp} {a c : Addr} {n : Nat} (t : TapeAt H a c n) (k : Kb2 a c H H') : TS H H' := by
  obtain ⟨cells, p, x, y, h1, h2, h3, h4⟩ := t.ex
  exact k.ts h1 h2
theorem TapeAt.free {H : Hp} {a c b : Addr} {n : Nat} (t : TapeAt H a c n) (h : H b = none) : b ≠ a ∧ b ≠ c := by
  obtain ⟨cells, p, x, y, h1, h2, h3, h4⟩ := t.ex
  exact ⟨fun z => (by rw [z, h1] at h; cases h), fun z => (by rw [z, h2] at h; cases h)⟩
def spDraw : Sp := fun vs H Q _ => ∃ (a c : Addr) (n : Nat) (m : Int), vs = [V.ref a, V.int m] ∧ TapeAt H a c n ∧ n < 90000 ∧ m < 1000000000 ∧ ∀ (r : Int) H', 0 ≤ r → (r < m ∨ r < 1) → Kb2 a c H H' → TapeAt H' a c (n + 1) → Q (.int r) H'
section
variable {P : Program} {w : World} {K : PySem.W.Frag} {mg : PySem.Str → Option Value} {base : Heap} {f : Addr} {fd : FuncData}
theorem ok_draw (F : Fun K "_law_draw" "_law_draw" s_law_draw f fd) (B : Blt mg) : FnOk P w K mg base CX0 1 f fd ["_law_tape_here", "_law_many"] spDraw := by
  refine F.ok sc_law_draw (fun vs H Q E h => ?_) (fun cdv A outer s H vs Q E hr h => ?_)
  · obtain ⟨a, c, n, m, rfl, _⟩ := h
    rfl
  obtain ⟨a, c, n, m, rfl, ht, hn, hm, k⟩ := h
  refine ⟨_, (pss_cons (ps_if (pt_cmpR op_eq (pe_ix ixL0 (pv 0) pe_int (fun _ _ => rfl)) pe_int (nomark _)) (pss_cons (ps_set (i := 2) sc_law_draw.nd rfl (Or.inl rfl) (pe_ix ixL0 (pv 0) pe_int (fun _ _ => rfl)))
    (pss_cons (ps_set (i := 3) sc_law_draw.nd rfl (Or.inl rfl) (pe_ix ixL0 (pv 0) pe_int (fun _ _ => rfl)))
    (pss_cons (ps_if (pt_cmpR op_eq (pv 3) (pe_callB cr_len (by rfl) B.len (by decide +kernel) (pa_cons (pv 2) pa_nil)) (nomark _)) (pss_cons (ps_asg (pe_op op_mod (pe_callTy call_int1 (by rfl) B.int (by decide +kernel) (pa_cons (pe_op op_add (pe_op op_add (pe_op op_mul (pe_ix ixL0 (pv 0) pe_int (fun _ _ => rfl)) pe_int) (pv 3)) pe_int) pa_nil)) pe_int) (pg_sub (pv 0) pe_int set_list))
    (pss_one (ps_expr (pe_bm PySem.F.plainAttrs_list PySem.F.slot_list_append PySem.F.type_list_append mt_append (pv 2) (pa_cons (pe_ix ixL0 (pv 0) pe_int (fun _ _ => rfl)) pa_nil))))) pss_nil)
    (pss_cons (ps_asg (pe_op op_add (pv 3) pe_int) (pg_sub (pv 0) pe_int set_list))
    (pss_cons (ps_set (i := 4) sc_law_draw.nd rfl (Or.inl rfl) (pe_callB call_abs (by rfl) B.abs (by decide +kernel) (pa_cons (pe_callTy call_int1 (by rfl) B.int (by decide +kernel) (pa_cons (pe_ix ixL0 (pv 2) (pv 3) (fun _ _ => rfl)) pa_nil)) pa_nil)))
    (pss_cons (ps_if (pt_cmpR op_lt (pv 4) (pe_op op_pow pe_int pe_int) (nomark _)) (pss_cons (ps_set (i := 4) sc_law_draw.nd rfl (Or.inl rfl) (pe_op op_mod (pe_callTy call_int1 (by rfl) B.int (by decide +kernel) (pa_cons (pe_op op_add (pe_op op_add (pe_op op_mul (pv 4) pe_int) (pe_op op_mul (pv 3) pe_int)) pe_int) pa_nil)) pe_int))
    (pss_cons (ps_set (i := 4) sc_law_draw.nd rfl (Or.inl rfl) (pe_op op_mod (pe_callTy call_int1 (by rfl) B.int (by decide +kernel) (pa_cons (pe_op op_mul (pv 4) pe_int) pa_nil)) pe_int))
    (pss_one (ps_ret (pe_op op_mod (pe_callTy call_int1 (by rfl) B.int (by decide +kernel) (pa_cons (pv 4) pa_nil)) (pe_callB (call_max2 rfl) (by rfl) B.max (by decide +kernel) (pa_cons (pv 1) (pa_cons pe_int pa_nil)))))))) pss_nil)
    (pss_one (ps_asg (pv 4) (pg_sub (pv 0) pe_int set_list))))))))) pss_nil)
    (pss_cons (ps_set (i := 4) sc_law_draw.nd rfl (Or.inl rfl) (pe_ix ixL0 (pv 0) pe_int (fun _ _ => rfl)))
    (pss_cons (ps_asg (pe_op op_fdivW (pv 4) (pe_callB (call_max2 rfl) (by rfl) B.max (by decide +kernel) (pa_cons (pv 1) (pa_cons pe_int pa_nil)))) (pg_sub (pv 0) pe_int set_list))
    (pss_one (ps_ret (pe_op op_mod (pe_callTy call_int1 (by rfl) B.int (by decide +kernel) (pa_cons (pv 4) pa_nil)) (pe_callB (call_max2 rfl) (by rfl) B.max (by decide +kernel) (pa_cons (pv 1) (pa_cons pe_int pa_nil))))))))), ?_⟩
  have at3 : ∀ {x y z u : V}, atI [x, y, z, u] 3 = some u := fun {x y z u} => atI_nat (j := 3) rfl
  show tSeq ?A ?B ?cs ?s ?h
  have fin : ∀ (z1 z2 z3 : Option V) (H1 : Hp), TapeAt H1 a c (n + 1) → Kb2 a c H H1 → ?B ?cs [some (V.ref a), some (V.int m), z1, z2, z3] H1 := by
    intro z1 z2 z3 H1 h1 kb
    obtain ⟨cells, p, x, y, e1, e2, hp, hl⟩ := h1.ex
    refine ⟨_, rfl, a, _, 2, _, rfl, rfl, e1, at2, ?_⟩
    refine ⟨_, rfl, _, rfl, m, 2, rfl, x, _, rfl, rfl, ⟨?_, ?_⟩, _, rfl, a, _, 2, 2, rfl, rfl, e1, rfl, ?_⟩
    · split <;> omega
    · have h2 : (if (2 : Int) > m then (2 : Int) else m).natAbs ≠ 0 := by split <;> omega
      refine Nat.lt_trans ((Nat.log2_lt (k := 64) h2).mpr ?_) (by decide)
      split <;> omega
    refine ⟨_, rfl, .inl ⟨x, rfl, _, rfl, m, 1, rfl, x, _, rfl, rfl, ?_, ?_⟩⟩
    · split <;> omega
    · have hM : (0 : Int) < if (1 : Int) > m then 1 else m := by split <;> omega
      refine k _ _ (Int.emod_nonneg _ (by omega)) ?_ (kb.trans Kb2.p) ⟨⟨cells, p, _, y, upd_same, by rw [upd_ne (Ne.symm ht.ne)]; exact e2, hp, hl⟩, ht.ne⟩
      have := Int.emod_lt_of_pos x hM
      by_cases c1 : (1 : Int) > m
      · rw [if_pos c1] at this ⊢
        exact .inr this
      · rw [if_neg c1] at this ⊢
        exact .inl this
  obtain ⟨cells, p, x, y, e1, e2, hp, hl⟩ := ht.ex
  refine ⟨_, rfl, a, _, 2, _, rfl, rfl, e1, at2, rfl, _, rfl, ?_⟩
  by_cases cx : V.int x = V.int 0
  case neg => exact ifF (decide_eq_false cx) (fin _ _ _ H ⟨⟨cells, p, x, y, e1, e2, hp, by omega⟩, ht.ne⟩ (Kb2.of (Same.refl H)))
  refine ifT (decide_eq_true cx) ⟨_, rfl, a, _, 0, _, rfl, rfl, e1, at0, ⟨_, rfl, a, _, 1, _, rfl, rfl, e1, at1, ?_⟩⟩
  dsimp only [gName]
  show tSeq ?A2 ?B2 ?cs2 ?s2 ?h2
  have mid : ∀ (H1 : Hp) (cs1 : List Int) (y1 : Int), H1 a = some (.lst [V.ref c, V.int p, V.int x, V.int y1]) → H1 c = some (.lst (cs1.map V.int)) → p < cs1.length → cs1.length ≤ n + 1 → Kb2 a c H H1 →
      ?B2 ?cs2 [some (V.ref a), some (V.int m), some (V.ref c), some (V.int p), none] H1 := by
    intro H1 cs1 y1 g1 g2 hp1 hl1 kb
    refine ⟨_, rfl, (p : Int), 1, rfl, rfl, _, rfl, a, _, 1, 1, rfl, rfl, g1, rfl, ?_⟩
    have kb2 : Kb2 a c H (upd H1 a (.lst ([V.ref c, V.int p, V.int x, V.int y1].set 1 (V.int ((p : Int) + 1))))) := kb.trans Kb2.p
    have g3 : (upd H1 a (.lst ([V.ref c, V.int p, V.int x, V.int y1].set 1 (V.int ((p : Int) + 1))))) a = some (.lst [V.ref c, V.int ((p + 1 : Nat) : Int), V.int x, V.int y1]) := upd_same
    have g4 : (upd H1 a (.lst ([V.ref c, V.int p, V.int x, V.int y1].set 1 (V.int ((p : Int) + 1))))) c = some (.lst (cs1.map V.int)) := by rw [upd_ne (Ne.symm ht.ne)]; exact g2
    generalize upd H1 a (.lst ([V.ref c, V.int p, V.int x, V.int y1].set 1 (V.int ((p : Int) + 1)))) = H2 at kb2 g3 g4 ⊢
    have hv : (cs1.map V.int)[p]? = some (V.int cs1[p]) := by rw [List.getElem?_map, List.getElem?_eq_getElem hp1]; rfl
    refine ⟨_, rfl, _, rfl, c, _, (p : Int), _, rfl, rfl, g4, atI_nat hv, .inl ⟨_, rfl, _, rfl, ?_⟩⟩
    generalize (if cs1[p] < 0 then -cs1[p] else cs1[p]) = num
    refine ⟨_, rfl, 10, 18, rfl, rfl, ⟨by decide, by decide, by decide⟩, _, _, rfl, rfl, _, rfl, ?_⟩
    by_cases cn : num < (10 : Int) ^ (18 : Int).toNat
    · refine ifT (decide_eq_true cn) ?_
      refine ⟨_, rfl, num, 48271, rfl, rfl, .inr (by decide), _, rfl, (p : Int), 69621, rfl, rfl, .inr (by decide), _, _, rfl, rfl, _, 5, rfl, rfl, .inl ⟨_, rfl, _, 2147483647, rfl, rfl, (by decide : (0 : Int) < 2147483647), ?_⟩⟩
      refine ⟨_, rfl, _, 69621, rfl, rfl, .inr (by decide), .inl ⟨_, rfl, _, 2147483629, rfl, rfl, (by decide : (0 : Int) < 2147483629), ?_⟩⟩
      refine ⟨_, rfl, .inl ⟨_, rfl, _, rfl, m, 1, rfl, _, _, rfl, rfl, ?_, ?_⟩⟩
      · split <;> omega
      · have hM : (0 : Int) < if (1 : Int) > m then 1 else m := by split <;> omega
        refine k _ _ (Int.emod_nonneg _ (by omega)) ?_ kb2 ⟨⟨cs1, p + 1, x, y1, g3, g4, hp1, hl1⟩, ht.ne⟩
        have := fun z => Int.emod_lt_of_pos z hM
        by_cases c1 : (1 : Int) > m
        · rw [if_pos c1] at this ⊢
          exact .inr (this _)
        · rw [if_neg c1] at this ⊢
          exact .inl (this _)
    · refine ifF (decide_eq_false cn) ⟨_, rfl, _, rfl, a, _, 2, 2, rfl, rfl, g3, rfl, ?_⟩
      exact fin _ _ _ _ ⟨⟨cs1, p + 1, num, y1, upd_same, by rw [upd_ne (Ne.symm ht.ne)]; exact g4, hp1, hl1⟩, ht.ne⟩ (kb2.trans Kb2.p)
  refine ⟨_, rfl, _, rfl, c, _, rfl, .inl e2, rfl, _, rfl, ?_⟩
  rw [dec_nat, List.length_map]
  by_cases cp : p = cells.length
  · refine ifT (decide_eq_true cp) ?_
    refine ⟨_, rfl, a, _, 3, _, rfl, rfl, e1, at3, y, 48271, rfl, rfl, .inr (by decide), _, rfl, _, (p : Int), rfl, rfl, _, 1, rfl, rfl, .inl ⟨_, rfl, _, 2147483647, rfl, rfl, (by decide : (0 : Int) < 2147483647), _, rfl, a, _, 3, 3, rfl, rfl, e1, rfl, ?_⟩⟩
    have kb1 : Kb2 a c H (upd H a (.lst ([V.ref c, V.int p, V.int x, V.int y].set 3 (V.int ((y * 48271 + (p : Int) + 1) % 2147483647))))) := Kb2.p
    have g1 : (upd H a (.lst ([V.ref c, V.int p, V.int x, V.int y].set 3 (V.int ((y * 48271 + (p : Int) + 1) % 2147483647))))) a = some (.lst [V.ref c, V.int p, V.int x, V.int ((y * 48271 + (p : Int) + 1) % 2147483647)]) := upd_same
    have g2 : (upd H a (.lst ([V.ref c, V.int p, V.int x, V.int y].set 3 (V.int ((y * 48271 + (p : Int) + 1) % 2147483647))))) c = some (.lst (cells.map V.int)) := by rw [upd_ne (Ne.symm ht.ne)]; exact e2
    refine ⟨_, rfl, .inl ⟨rfl, _, SqL.of g2⟩, _, rfl, a, _, 3, _, rfl, rfl, g1, at3, c, _, _, rfl, rfl, g2, small_line (by rw [List.length_map]; omega), ?_⟩
    refine mid _ (cells ++ [(y * 48271 + (p : Int) + 1) % 2147483647]) ((y * 48271 + (p : Int) + 1) % 2147483647) (by rw [upd_ne ht.ne]; exact g1) (by rw [upd_same, List.map_append]; rfl) ?_ ?_ (kb1.trans Kb2.q)
    · rw [List.length_append, List.length_singleton]; omega
    · rw [List.length_append, List.length_singleton]; omega
  · exact ifF (decide_eq_false cp) (mid H cells y e1 e2 (by omega) (by omega) (Kb2.of (Same.refl H)))
def spTape (K : PySem.W.Frag) : Sp := fun vs H Q _ => ∃ (p : Addr) (ns : List Int), vs = [V.ref p] ∧ SqL K H p (ns.map V.int) ∧ ns.length ≤ 63 ∧ ∀ (a c : Addr) H', Same H H' → TapeAt H' a c 63 → Q (.ref a) H'
theorem ok_tape (F : Fun K "_law_tape" "_law_tape" s_law_tape f fd) (B : Blt mg) : FnOk P w K mg base CX0 1 f fd ["_law_script"] (spTape K) := by
  refine F.ok sc_law_tape (fun vs H Q E h => ?_) (fun cdv A outer s H vs Q E hr h => ?_)
  · obtain ⟨p, ns, rfl, _⟩ := h
    rfl
  obtain ⟨p, ns, rfl, hS, h63, k⟩ := h
  refine ⟨_, (pss_cons (ps_set (i := 1) sc_law_tape.nd rfl (Or.inl rfl) pe_int)
    (pss_cons (ps_for PassesOwn.never rfl (pi_list (pv 0)) (pg_name (i := 2) sc_law_tape.nd rfl (Or.inl rfl)) (pss_one (ps_set (i := 1) sc_law_tape.nd rfl (Or.inl rfl) (pe_op op_mod (pe_callTy call_int1 (by rfl) B.int (by decide +kernel) (pa_cons (pe_op op_add (pe_op op_mul (pv 1) pe_int) (pe_callB call_abs (by rfl) B.abs (by decide +kernel) (pa_cons (pe_callTy call_int1 (by rfl) B.int (by decide +kernel) (pa_cons (pv 2) pa_nil)) pa_nil))) pa_nil)) pe_int))))
    (pss_one (ps_ret (pe_lst (pa_cons (pe_callTy call_list_of (by rfl) B.list (by decide +kernel) (pa_cons (pv 0) pa_nil)) (pa_cons pe_int (pa_cons pe_int (pa_cons (pv 1) pa_nil))))))))), ?_⟩
  refine ⟨_, rfl, p, rfl, ⟨_, hS⟩, for_list (xs := ns.map V.int) (fun i σ H' => ∃ (t : Int) (y : Option V), σ = [some (V.ref p), some (V.int t), y] ∧ Same H H')
    ⟨7, none, rfl, Same.refl _⟩ (fun i σ H' _ ⟨_, _, _, s'⟩ => s'.seq hS) ?_ ?_⟩
  · rintro i z σ H' hz ⟨t, y, rfl, s'⟩
    obtain ⟨x, hx, rfl⟩ : ∃ x, ns[i]? = some x ∧ z = V.int x := by
      rw [List.getElem?_map] at hz
      cases e : ns[i]? with
      | none => rw [e] at hz; cases hz
      | some q => rw [e] at hz; exact ⟨q, rfl, (Option.some.inj hz).symm⟩
    refine ⟨_, rfl, t, 31, rfl, rfl, .inr (by decide), _, rfl, .inl ⟨x, rfl, _, rfl, _, _, rfl, rfl, .inl ⟨_, rfl, _, 2147483647, rfl, rfl, (by decide : (0 : Int) < 2147483647), _, _, rfl, s'⟩⟩⟩
  · rintro σ H1 ⟨t, y, rfl, s1⟩
    refine ⟨_, rfl, p, _, rfl, .inl (s1.seq hS), fun c hc => ⟨_, rfl, (by show 4 ≤ sizeLine; decide), fun a ha => ?_⟩⟩
    have g1 := same_new hc (HO.lst (ns.map V.int))
    have g2 := same_new ha (HO.lst [V.ref c, V.int 0, V.int 0, V.int t])
    refine k a c _ (s1.trans (g1.trans g2)) ⟨⟨ns, 0, 0, t, upd_same, g2 _ _ upd_same, Nat.zero_le _, h63⟩, fun z => ?_⟩
    rw [z, upd_same] at ha
    cases ha
/-- all stands but the objects at a, c and q -/
def Kb3 (a c q : Addr) (H H' : Hp) : Prop := ∀ b o, b ≠ a → b ≠ c → b ≠ q → H b = some o → H' b = some o
def spPicked : Sp := fun vs H Q _ => ∃ (a c rp : Addr) (n : Nat) (rv : List V) (R : List (List PySem.Str)) (one : Int), vs = [V.ref a, V.ref rp, V.int one] ∧ TapeAt H a c n ∧ n < 80000 ∧ one < 1000000000 ∧ H rp = some (.lst rv) ∧ rp ≠ a ∧ rp ≠ c ∧ Ats H (R.map tS) rv ∧ R.length ≤ 64 ∧
  ∀ (q : Addr) (ys : List V) (W : List (List PySem.Str)) H', Kb2 a c H H' → TapeAt H' a c (n + 64) → H' q = some (.lst ys) → Ats H' (W.map tS) ys → q ≠ a → q ≠ c → W.Sublist R → Q (.ref q) H'
theorem ok_picked (F : Fun K "_law_picked" "_law_picked" s_law_picked f fd) (D_draw : Def P w K mg base CX0 1 "_law_draw" ["_law_tape_here", "_law_many"] spDraw) : FnOk P w K mg base CX0 2 f fd ["_law_tape_here", "_law_rows", "_law_one"] spPicked := by
  refine F.ok sc_law_picked (fun vs H Q E h => ?_) (fun cdv A outer s H vs Q E hr h => ?_)
  · obtain ⟨a, c, rp, n, rv, R, one, rfl, _⟩ := h
    rfl
  obtain ⟨a, c, rp, n, rv, R, one, rfl, ht, hn, h1, hrp, nra, nrc, hrv, hR, k⟩ := h
  have rlen : rv.length = R.length := by rw [hrv.len, List.length_map]
  refine ⟨_, (pss_cons (ps_set (i := 3) sc_law_picked.nd rfl (Or.inl rfl) (pe_lst pa_nil))
    (pss_cons (ps_for PassesOwn.never rfl (pi_list (pv 1)) (pg_name (i := 4) sc_law_picked.nd rfl (Or.inl rfl)) (pss_one (ps_if (pt_cmpR op_eq (pe_callD D_draw (hr.mono (by omega)) (by rfl) pass0 (pa_cons (pv 0) (pa_cons (pv 2) pa_nil))) pe_int (nomark _)) (pss_one (ps_expr (pe_bm PySem.F.plainAttrs_list PySem.F.slot_list_append PySem.F.type_list_append mt_append (pv 3) (pa_cons (pv 4) pa_nil)))) pss_nil)))
    (pss_one (ps_ret (pv 3))))), ?_⟩
  refine ⟨Nat.zero_le _, fun q hq => ?_⟩
  have hqH : H q = none := hq
  obtain ⟨nqa, nqc⟩ := ht.free hqH
  have nrq : rp ≠ q := ne_of_none hrp hqH
  have s1 := same_new hq (HO.lst [])
  have e1 : (upd H q (.lst [])) q = some (.lst []) := upd_same
  generalize upd H q (.lst []) = H1 at s1 e1 ⊢
  have ht1 : TapeAt H1 a c (n + 0) := ht.mono s1 (Nat.le_refl _)
  have hrp1 := s1 _ _ hrp
  have hrv1 := hrv.mono (.of s1)
  have ts3 : ∀ H', Kb3 a c q H1 H' → TS H1 H' := fun H' kb b xs e => by
    obtain ⟨cells, p, x, y, g1, g2, _, _⟩ := ht1.ex
    exact kb b _ (fun z => by rw [z, g1] at e; cases e) (fun z => by rw [z, g2] at e; cases e) (fun z => by rw [z, e1] at e; cases e) e
  refine ⟨_, rfl, rp, rfl, ⟨_, SqL.of hrp1⟩, for_list (xs := rv) (fun i σ H' => ∃ (y : Option V) (ys : List V) (W : List (List PySem.Str)), σ = [some (V.ref a), some (V.ref rp), some (V.int one), some (V.ref q), y] ∧ Kb3 a c q H1 H' ∧ TapeAt H' a c (n + i) ∧ H' q = some (.lst ys) ∧ Ats H' (W.map tS) ys ∧ W.Sublist (R.take i))
    ⟨none, [], [], rfl, fun _ _ _ _ _ e => e, ht1, e1, .nil, List.nil_sublist _⟩ (fun i σ H' _ ⟨_, _, _, _, kb, _⟩ => SqL.of (kb _ _ nra nrc nrq hrp1)) ?_ ?_⟩
  · rintro i z σ H' hz ⟨y, ys, W, rfl, kb, ht', hq', hat, hsub⟩
    obtain ⟨o, ho, hoat⟩ := hrv1.getE hz
    have hi : i < R.length := (List.getElem?_eq_some_iff.mp ho).1
    have ho' := hoat.mono (ts3 _ kb)
    refine ⟨_, rfl, _, rfl, a, c, n + i, one, rfl, ht', by omega, h1, fun r H2 r0 r1 kb2 ht2 => ⟨rfl, _, rfl, ?_⟩⟩
    have ts2 := ht'.ts kb2
    have hq2 := kb2 _ _ nqa nqc hq'
    have kb' : Kb3 a c q H1 H2 := fun b o n1 n2 n3 e => kb2 b o n1 n2 (kb b o n1 n2 n3 e)
    by_cases cr : V.int r = V.int 0
    · have hl : ys.length ≤ i := by
        have h1 := hsub.length_le
        rw [List.length_take] at h1
        rw [hat.len, List.length_map]
        omega
      refine ifT (decide_eq_true cr) ⟨_, rfl, .inl ⟨rfl, _, SqL.of hq2⟩, _, rfl, q, _, _, rfl, rfl, hq2, small_line (by omega), ?_⟩
      have tsu : TS H2 (upd H2 q (.lst (ys ++ [z]))) := TS.lst hq2
      refine ⟨_, ys ++ [z], W ++ [o], rfl, fun b u n1 n2 n3 e => by rw [upd_ne n3]; exact kb' b u n1 n2 n3 e, ?_, upd_same, ?_, ?_⟩
      · obtain ⟨cells, p, x, y, g1, g2, g3, g4⟩ := ht2.ex
        exact ⟨⟨cells, p, x, y, by rw [upd_ne (Ne.symm nqa)]; exact g1, by rw [upd_ne (Ne.symm nqc)]; exact g2, g3, g4⟩, ht.ne⟩
      · rw [List.map_append]
        exact (hat.mono (ts2.trans tsu)).app (.cons (ho'.mono (ts2.trans tsu)) .nil)
      · rw [take_succ ho]
        exact List.Sublist.append hsub (List.Sublist.refl _)
    · refine ifF (decide_eq_false cr) ⟨_, ys, W, rfl, kb', ht2, hq2, hat.mono ts2, ?_⟩
      rw [take_succ ho]
      exact hsub.trans (List.sublist_append_left _ _)
  · rintro σ H2 ⟨y, ys, W, rfl, kb, ht2, hq2, hat, hsub⟩
    rw [rlen] at ht2 hsub
    rw [List.take_length] at hsub
    refine ⟨_, rfl, k q ys W H2 (fun b o n1 n2 e => kb b o n1 n2 (ne_of_none e hqH) (s1 _ _ e)) ?_ hq2 hat nqa nqc hsub⟩
    obtain ⟨cells, p, x, y, g1, g2, g3, g4⟩ := ht2.ex
    exact ⟨⟨cells, p, x, y, g1, g2, g3, by omega⟩, ht.ne⟩
theorem rows_ne {H : Hp} {a c rp : Addr} {n : Nat} {rv : List V} {R : List (List PySem.Str)} (ht : TapeAt H a c n) (h : H rp = some (.lst rv)) (hat : Ats H (R.map tS) rv) (hR : R ≠ []) : rp ≠ a ∧ rp ≠ c := by
  obtain ⟨cells, p, x, y, g1, g2, _, _⟩ := ht.ex
  have no : ∀ (i : Nat) (z : Int), rv[i]? ≠ some (V.int z) := fun i z e => by
    obtain ⟨o, _, ho⟩ := hat.getE e
    obtain ⟨oa, e2, _⟩ := at_tS.mp ho
    cases e2
  constructor
  · rintro rfl
    rw [g1] at h
    have h2 := Option.some.inj h
    injection h2 with h3
    exact no 1 p (by rw [← h3]; rfl)
  · rintro rfl
    rw [g2] at h
    have h2 := Option.some.inj h
    injection h2 with h3
    cases cells with
    | nil =>
      have hl := hat.len
      rw [← h3] at hl
      cases R with
      | nil => exact hR rfl
      | cons o r => simp at hl
    | cons z r => exact no 0 z (by rw [← h3]; rfl)
def spWorlds : Sp := fun vs H Q _ => ∃ (a c np : Addr) (n : Nat) (ns : List PySem.Str), vs = [V.ref a, V.ref np] ∧ TapeAt H a c n ∧ n < 70000 ∧ H np = some (.lst (ns.map V.str)) ∧ ns.length ≤ 6 ∧
  ∀ (q : Addr) (ys : List V) (W : List (List PySem.Str)) H', Kb2 a c H H' → TapeAt H' a c (n + 70) → H' q = some (.lst ys) → Ats H' (W.map tS) ys → q ≠ a → q ≠ c → W ≠ [] → (∀ o ∈ W, o ∈ allO (srt leS ns)) → W.length ≤ 2 ^ ns.length → Q (.ref q) H'
theorem ok_worlds (F : Fun K "_law_worlds" "_law_worlds" s_law_worlds f fd) (B : Blt mg) (D_all : Def P w K mg base CX0 1 "_law_all" ["_law_names_here"] spAllO) (D_draw : Def P w K mg base CX0 1 "_law_draw" ["_law_tape_here", "_law_many"] spDraw) (D_picked : Def P w K mg base CX0 2 "_law_picked" ["_law_tape_here", "_law_rows", "_law_one"] spPicked) :
    FnOk P w K mg base CX0 3 f fd ["_law_tape_here", "_law_names_here"] spWorlds := by
  refine F.ok sc_law_worlds (fun vs H Q E h => ?_) (fun cdv A outer s H vs Q E hr h => ?_)
  · obtain ⟨a, c, np, n, ns, rfl, _⟩ := h
    rfl
  obtain ⟨a, c, np, n, ns, rfl, ht, hn, hnp, h6, k⟩ := h
  have hSl : (srt leS ns).length ≤ 6 := by rw [srt_length]; exact h6
  have hAL : (allO (srt leS ns)).length ≤ 64 := by rw [allO_length]; exact pow6 hSl
  refine ⟨_, (pss_cons (ps_set (i := 2) sc_law_worlds.nd rfl (Or.inl rfl) (pe_callD D_all (hr.mono (by omega)) (by rfl) pass0 (pa_cons (pe_callB cr_sortL (by rfl) B.sorted (by decide +kernel) (pa_cons (pv 1) pa_nil)) pa_nil)))
    (pss_cons (ps_set (i := 3) sc_law_worlds.nd rfl (Or.inl rfl) (pe_callD D_draw (hr.mono (by omega)) (by rfl) pass0 (pa_cons (pv 0) (pa_cons pe_int pa_nil))))
    (pss_cons (ps_if (pt_cmpR op_eq (pv 3) pe_int (nomark _)) (pss_one (ps_ret (pv 2))) pss_nil)
    (pss_cons (ps_set (i := 4) sc_law_worlds.nd rfl (Or.inl rfl) (pe_callD D_picked (hr.mono (by omega)) (by rfl) pass0 (pa_cons (pv 0) (pa_cons (pv 2) (pa_cons (pe_ix ixL0 (pe_lst (pa_cons pe_int (pa_cons pe_int (pa_cons pe_int (pa_cons pe_int pa_nil))))) (pv 3) (fun _ _ => rfl)) pa_nil)))))
    (pss_cons (ps_if (pt_not (pt_lst (pv 4))) (pss_one (ps_ret (pe_lst (pa_cons (pe_ix ixL0 (pv 2) (pe_callD D_draw (hr.mono (by omega)) (by rfl) pass0 (pa_cons (pv 0) (pa_cons (pe_callB cr_len (by rfl) B.len (by decide +kernel) (pa_cons (pv 2) pa_nil)) pa_nil))) (fun _ _ => rfl)) pa_nil)))) pss_nil)
    (pss_one (ps_ret (pv 4)))))))), ?_⟩
  refine ⟨_, rfl, np, ns, rfl, hnp, by omega, fun p1 hp1 => ?_⟩
  have s1 := same_new hp1 (HO.lst ((srt leS ns).map V.str))
  have e1 : (upd H p1 (.lst ((srt leS ns).map V.str))) p1 = some (.lst ((srt leS ns).map V.str)) := upd_same
  generalize upd H p1 (.lst ((srt leS ns).map V.str)) = H1 at s1 e1 ⊢
  have ht1 := ht.mono s1 (Nat.le_refl _)
  refine ⟨srt leS ns, p1, rfl, .inl e1, hSl, fun rp rv H2 s2 hrp hrv => ?_⟩
  have hAeq : (allO (srt leS ns)).length ≤ 2 ^ ns.length := by
    rw [allO_length, srt_length]
    exact Nat.le_refl _
  have hAne : allO (srt leS ns) ≠ [] := fun z => by
    have h1 := allO_length (srt leS ns)
    rw [z] at h1
    exact absurd h1.symm (Nat.pos_iff_ne_zero.mp (Nat.two_pow_pos _))
  have ht2 := ht1.mono s2 (Nat.le_refl _)
  obtain ⟨nra, nrc⟩ := rows_ne ht2 hrp hrv hAne
  have s12 := s1.trans s2
  refine ⟨_, rfl, a, c, n, 4, rfl, ht2, by omega, by decide, fun r H3 r0 r1 kb3 ht3 => ?_⟩
  have hrp3 := kb3 _ _ nra nrc hrp
  have hrv3 := hrv.mono (ht2.ts kb3)
  have kb03 : Kb2 a c H H3 := (Kb2.of s12).trans kb3
  refine ⟨_, rfl, rfl, _, rfl, ?_⟩
  by_cases cr : V.int r = V.int 0
  · exact ifT (decide_eq_true cr) ⟨_, rfl, k rp rv _ H3 kb03 (by obtain ⟨cells, p, x, y, g1, g2, g3, g4⟩ := ht3.ex; exact ⟨⟨cells, p, x, y, g1, g2, g3, by omega⟩, ht3.ne⟩) hrp3 hrv3 nra nrc hAne (fun o ho => ho) hAeq⟩
  refine ifF (decide_eq_false cr) ?_
  have hr0 : r ≠ 0 := fun z => cr (by rw [z])
  have hv : ∃ v : Int, atI [V.int 2, V.int 2, V.int 2, V.int 7] r = some (V.int v) ∧ v < 1000000000 := by
    have h4 : r = 1 ∨ r = 2 ∨ r = 3 := by omega
    rcases h4 with rfl | rfl | rfl
    · exact ⟨2, at1, by decide⟩
    · exact ⟨2, at2, by decide⟩
    · exact ⟨7, atI_nat (j := 3) rfl, by decide⟩
  obtain ⟨v, hv, hv9⟩ := hv
  refine ⟨_, rfl, _, rfl, (by show 4 ≤ sizeLine; decide), fun p4 hp4 => ⟨_, rfl, p4, _, r, V.int v, rfl, rfl, upd_same, hv, ?_⟩⟩
  have s4 := same_new hp4 (HO.lst [V.int 2, V.int 2, V.int 2, V.int 7])
  generalize upd H3 p4 (.lst [V.int 2, V.int 2, V.int 2, V.int 7]) = H4 at s4 ⊢
  have ht4 := ht3.mono s4 (Nat.le_refl _)
  refine ⟨a, c, rp, n + 1, rv, allO (srt leS ns), v, rfl, ht4, by omega, hv9, s4 _ _ hrp3, nra, nrc, hrv3.mono (.of s4), hAL, fun q ys W H5 kb5 ht5 hq hat nqa nqc hsub => ?_⟩
  have kb05 := (kb03.trans (Kb2.of s4)).trans kb5
  refine ⟨_, rfl, q, _, rfl, hq, ?_⟩
  have hyl : ys.length = W.length := by rw [hat.len, List.length_map]
  by_cases cw : W = []
  · have ey : ys = [] := List.eq_nil_of_length_eq_zero (by rw [hyl, cw]; rfl)
    refine ifT (by rw [ey]; rfl) ?_
    have hrp5 := kb5 _ _ nra nrc (s4 _ _ hrp3)
    have hrv5 := (hrv3.mono (.of s4)).mono (ht4.ts kb5)
    have rlen : rv.length = (allO (srt leS ns)).length := by rw [hrv.len, List.length_map]
    refine ⟨_, rfl, _, rfl, _, rfl, rp, rv, rfl, .inl hrp5, a, c, n + 1 + 64, rv.length, rfl, ht5, by omega, by omega, fun z H6 z0 z1 kb6 ht6 => ?_⟩
    have hz : z.toNat < (allO (srt leS ns)).length := by
      have h1 : 0 < (allO (srt leS ns)).length := List.length_pos_iff.mpr hAne
      omega
    have hz2 : z = ((z.toNat : Nat) : Int) := by omega
    obtain ⟨u, hu, hou⟩ := hrv5.get' (i := z.toNat) (t := tS (allO (srt leS ns))[z.toNat]) (by rw [List.getElem?_map, List.getElem?_eq_getElem hz]; rfl)
    have hrp6 := kb6 _ _ nra nrc hrp5
    refine ⟨rp, rv, z, u, rfl, rfl, hrp6, by rw [hz2]; exact atI_nat hu, (by show 1 ≤ sizeLine; decide), fun q7 hq7 => ?_⟩
    have s7 := same_new hq7 (HO.lst [u])
    obtain ⟨n7a, n7c⟩ := ht6.free hq7
    refine k q7 [u] [(allO (srt leS ns))[z.toNat]] _ ((kb05.trans kb6).trans (Kb2.of s7)) (ht6.mono s7 (by omega)) upd_same ?_ n7a n7c (fun z => by cases z) (fun o ho => ?_) (Nat.two_pow_pos _)
    · exact .cons (hou.mono ((ht5.ts kb6).trans (.of s7))) .nil
    · rw [List.mem_singleton.mp ho]
      exact List.getElem_mem _
  · have ey : ys.isEmpty = false := by
      cases ys with
      | nil => exact absurd (List.eq_nil_of_length_eq_zero (by rw [← hyl]; rfl)) cw
      | cons _ _ => rfl
    refine ifF (by rw [ey]; rfl) ⟨_, rfl, ?_⟩
    have hwl := hsub.length_le
    exact k q ys W H5 kb05 (by obtain ⟨cells, p, x, y, g1, g2, g3, g4⟩ := ht5.ex; exact ⟨⟨cells, p, x, y, g1, g2, g3, by omega⟩, ht5.ne⟩) hq hat nqa nqc cw (fun o ho => hsub.subset ho) (Nat.le_trans hwl hAeq)
end
end K49
namespace K49
open PySem PySem.Spec PyProof.Rows L2
abbrev s_law_names : Stmt := top 21
abbrev n_law_names : List PySem.Str := ["_law_tape_here", "_law_most", "_law_signs", "_law_share", "_law_names_here", "_law_k", "_law_number", "_law_more", "_law_name", "_law_at", "_law_plain"]
theorem sc_law_names : FnScope n_law_names ["_law_tape_here", "_law_most"] (defScope s_law_names) := ⟨rfl, rfl, rfl, by decide +kernel, rfl, by decide +kernel, by decide +kernel⟩
/-! ### names that are drawn -/
theorem ix_ok {z : PySem.Str} {n : Nat} (hz : z.length = n) {i : Int} (h0 : 0 ≤ i) (h : i < n) : ∃ c, atI z.cps.toList i = some c := by
  have e : i = ((i.toNat : Nat) : Int) := by omega
  have hl : z.cps.toList.length = n := by rw [Array.length_toList]; exact hz
  have hi : i.toNat < z.cps.toList.length := by omega
  have h2 := atI_nat (List.getElem?_eq_getElem hi)
  rw [← e] at h2
  exact ⟨_, h2⟩
theorem len_line {n : Nat} (h : n ≤ 100000) : n ≤ sizeLine := Nat.le_of_lt (small_line h)
theorem div_ok {j : Int} (h : 0 < j) (h2 : j < 1000000000) : (0 : Int) < j ∧ j.natAbs.log2 < 9000 := by
  refine ⟨h, Nat.lt_trans ((Nat.log2_lt (k := 64) (by omega)).mpr (by omega)) (by decide)⟩
abbrev sgT : PySem.Str := PySem.Str.ofString "abcdefghijklmnopqrstuvwxyz0123456789_"
theorem sg_len : sgT.length = 37 := by decide +kernel
abbrev plT : PySem.Str := PySem.Str.ofString "schema undecided prepared mentioned possible row when begin execute prepare learn"
theorem pl_len : plT.length + 2 ≤ sizeLine := by decide +kernel
theorem pl_words : (Txt.words plT).length = 11 ∧ ∀ z ∈ Txt.words plT, z.length ≤ 100 := by decide +kernel
abbrev trT : PySem.Str := PySem.Str.ofString "transaction"
theorem tr_len : trT.length ≤ 100 := by decide +kernel
abbrev rsT : PySem.Str := PySem.Str.ofString "reservation_x"
theorem rs_len : rsT.length ≤ 100 := by decide +kernel
theorem us_len : (PySem.Str.ofString "_").length ≤ 100 := by decide +kernel
theorem at_four {xs : List V} {n : Nat} (hl : xs.length = n) {i : Int} (h0 : 0 ≤ i) (h : i < n) : ∃ v, atI xs i = some v ∧ v ∈ xs := by
  have e : i = ((i.toNat : Nat) : Int) := by omega
  have hi : i.toNat < xs.length := by omega
  have h2 := atI_nat (List.getElem?_eq_getElem hi)
  rw [← e] at h2
  exact ⟨_, h2, List.getElem_mem _⟩
def spNameL : Sp := fun vs H Q _ => ∃ (a c : Addr) (n : Nat), vs = [V.ref a, V.int 6] ∧ TapeAt H a c n ∧ n < 60000 ∧
  ∀ (q : Addr) (ns : List PySem.Str) H', Kb2 a c H H' → TapeAt H' a c (n + 8) → H' q = some (.lst (ns.map V.str)) → q ≠ a → q ≠ c → ns.Nodup → ns ≠ [] → ns.length ≤ 6 → Q (.ref q) H'
section
variable {P : Program} {w : World} {K : PySem.W.Frag} {mg : PySem.Str → Option Value} {base : Heap} {f : Addr} {fd : FuncData}
theorem ok_names (F : Fun K "_law_names" "_law_names" s_law_names f fd) (B : Blt mg) (D_draw : Def P w K mg base CX0 1 "_law_draw" ["_law_tape_here", "_law_many"] spDraw) : FnOk P w K mg base CX0 2 f fd ["_law_tape_here", "_law_most"] spNameL := by
  refine F.ok sc_law_names (fun vs H Q E h => ?_) (fun cdv A outer s H vs Q E hr h => ?_)
  · obtain ⟨a, c, n, rfl, _⟩ := h
    rfl
  obtain ⟨a, c, n, rfl, ht, hn, k⟩ := h
  refine ⟨_, (pss_cons (ps_set (i := 2) sc_law_names.nd rfl (Or.inl rfl) pe_str)
    (pss_cons (ps_set (i := 3) sc_law_names.nd rfl (Or.inl rfl) (pe_callD D_draw (hr.mono (by omega)) (by rfl) pass0 (pa_cons (pv 0) (pa_cons pe_int pa_nil))))
    (pss_cons (ps_set (i := 4) sc_law_names.nd rfl (Or.inl rfl) (pe_lst pa_nil))
    (pss_cons (ps_for PassesOwn.never rfl (pi_range1 (by rfl) B.range (pa_cons (pe_op op_add pe_int (pe_callD D_draw (hr.mono (by omega)) (by rfl) pass0 (pa_cons (pv 0) (pa_cons (pv 1) pa_nil)))) pa_nil)) (pg_name (i := 5) sc_law_names.nd rfl (Or.inl rfl)) (pss_cons (ps_set (i := 6) sc_law_names.nd rfl (Or.inl rfl) (pe_callD D_draw (hr.mono (by omega)) (by rfl) pass0 (pa_cons (pv 0) (pa_cons pe_int pa_nil))))
    (pss_cons (ps_set (i := 7) sc_law_names.nd rfl (Or.inl rfl) (pe_op op_add_str (pe_ix ix_str (pv 2) (pe_op op_mod (pe_callTy call_int1 (by rfl) B.int (by decide +kernel) (pa_cons (pe_op op_fdivW (pv 6) pe_int) pa_nil)) pe_int) (fun _ _ => rfl)) (pe_ix ix_str (pv 2) (pe_op op_mod (pe_callTy call_int1 (by rfl) B.int (by decide +kernel) (pa_cons (pe_op op_fdivW (pv 6) pe_int) pa_nil)) pe_int) (fun _ _ => rfl))))
    (pss_cons (ps_set (i := 8) sc_law_names.nd rfl (Or.inl rfl) (pe_op op_add_str (pe_ix ix_str (pv 2) (pe_op op_mod (pe_callTy call_int1 (by rfl) B.int (by decide +kernel) (pa_cons (pv 6) pa_nil)) pe_int) (fun _ _ => rfl)) (pe_slice sl_str (pv 7) po_none (po_some (pe_ix ixL0 (pe_lst (pa_cons pe_int (pa_cons pe_int (pa_cons pe_int (pa_cons pe_int pa_nil))))) (pe_op op_mod (pe_callTy call_int1 (by rfl) B.int (by decide +kernel) (pa_cons (pe_op op_fdivW (pv 6) pe_int) pa_nil)) pe_int) (fun _ _ => rfl))))))
    (pss_cons (ps_set (i := 9) sc_law_names.nd rfl (Or.inl rfl) (pe_op op_mod (pe_callTy call_int1 (by rfl) B.int (by decide +kernel) (pa_cons (pe_op op_fdivW (pv 6) pe_int) pa_nil)) pe_int))
    (pss_cons (ps_set (i := 10) sc_law_names.nd rfl (Or.inl rfl) (pe_ix ixL0 (pe_words pe_str) (pv 9) (fun _ _ => rfl)))
    (pss_cons (ps_set (i := 8) sc_law_names.nd rfl (Or.inl rfl) (pe_ix ixL0 (pe_lst (pa_cons (pv 8) (pa_cons (pe_op op_add_str pe_str (pv 8)) (pa_cons (pe_op op_add_str (pe_op op_add_str (pe_slice sl_str pe_str po_none (po_some (pv 9))) (pe_ix ix_str (pv 8) pe_int (fun _ _ => rfl))) (pe_slice sl_str pe_str (po_some (pe_op op_add (pv 9) pe_int)) po_none)) (pa_cons (pv 10) pa_nil))))) (pv 3) (fun _ _ => rfl)))
    (pss_cons (ps_if (pt_cmpR inS (pv 8) (pe_tup (pa_cons pe_str (pa_cons pe_str (pa_cons pe_str (pa_cons pe_str (pa_cons pe_str (pa_cons pe_str (pa_cons pe_str (pa_cons pe_str (pa_cons pe_str (pa_cons pe_str pa_nil))))))))))) (by rfl)) (pss_one (ps_set (i := 8) sc_law_names.nd rfl (Or.inl rfl) (pe_op op_add_str (pv 8) pe_str))) pss_nil)
    (pss_one (ps_if (pt_cmpR notInS (pv 8) (pv 4) (by rfl)) (pss_one (ps_expr (pe_bm PySem.F.plainAttrs_list PySem.F.slot_list_append PySem.F.type_list_append mt_append (pv 4) (pa_cons (pv 8) pa_nil)))) pss_nil))))))))))
    (pss_one (ps_ret (pv 4))))))), ?_⟩
  refine ⟨_, rfl, a, c, n, 4, rfl, ht, by omega, by decide, fun share H0 r0 r1 kb0 ht0 => ?_⟩
  refine ⟨Nat.zero_le _, fun q hq => ?_⟩
  have hqH : H0 q = none := hq
  obtain ⟨nqa, nqc⟩ := ht0.free hqH
  have s1 := same_new hq (HO.lst [])
  have e1 : (upd H0 q (.lst [])) q = some (.lst []) := upd_same
  generalize upd H0 q (.lst []) = H1 at s1 e1 ⊢
  have ht1 := ht0.mono s1 (Nat.le_refl _)
  refine ⟨_, rfl, _, rfl, a, c, n + 1, 6, rfl, ht1, by omega, by decide, fun r H2 z0 z1 kb2 ht2 => ⟨1, r, rfl, rfl, 1 + r, rfl, by omega, by omega, ?_⟩⟩
  have e2 := kb2 _ _ nqa nqc e1
  have hN : (1 + r).toNat ≤ 6 := by omega
  refine for_range (lo := 0) (n := (1 + r).toNat) (fun i σ H' => ∃ (y5 y6 y7 y8 y9 y10 : Option V) (ns : List PySem.Str), σ = [some (V.ref a), some (V.int 6), some (V.str sgT), some (V.int share), some (V.ref q), y5, y6, y7, y8, y9, y10] ∧ Kb3 a c q H2 H' ∧ TapeAt H' a c (n + 2 + i) ∧
      H' q = some (.lst (ns.map V.str)) ∧ ns.Nodup ∧ ns.length ≤ i ∧ (0 < i → ns ≠ []))
    ⟨none, none, none, none, none, none, [], rfl, fun _ _ _ _ _ e => e, ht2, e2, List.nodup_nil, Nat.le_refl _, fun z => absurd z (Nat.lt_irrefl 0)⟩ ?_ ?_
  · rintro i σ H' hi ⟨y5, y6, y7, y8, y9, y10, ns, rfl, kb, ht', hq', nd, hl, hne⟩
    refine ⟨_, rfl, a, c, n + 2 + i, 1566136, rfl, ht', by omega, by decide, fun num H3 n0 n1 kb3 ht3 => ?_⟩
    have hq3 := kb3 _ _ nqa nqc hq'
    have kbq : Kb3 a c q H2 H3 := fun b o m1 m2 m3 e => kb3 b o m1 m2 (kb b o m1 m2 m3 e)
    -- more
    obtain ⟨c1, hc1⟩ := ix_ok sg_len (i := (num / 104) % 37) (Int.emod_nonneg _ (by decide)) (Int.emod_lt_of_pos _ (by decide))
    obtain ⟨c2, hc2⟩ := ix_ok sg_len (i := (num / 3848) % 37) (Int.emod_nonneg _ (by decide)) (Int.emod_lt_of_pos _ (by decide))
    refine ⟨_, rfl, _, rfl, num, 104, rfl, rfl, div_ok (by decide) (by decide), .inl ⟨_, rfl, _, 37, rfl, rfl, (by decide : (0 : Int) < 37), sgT, _, c1, rfl, rfl, by rw [sg_len]; exact len_line (by decide), hc1, ?_⟩⟩
    refine ⟨_, rfl, _, rfl, num, 3848, rfl, rfl, div_ok (by decide) (by decide), .inl ⟨_, rfl, _, 37, rfl, rfl, (by decide : (0 : Int) < 37), sgT, _, c2, rfl, rfl, by rw [sg_len]; exact len_line (by decide), hc2, _, _, rfl, rfl, (by show 2 ≤ sizeLine; decide), ?_⟩⟩
    have hml : ((⟨#[c1]⟩ : PySem.Str) ++ (⟨#[c2]⟩ : PySem.Str)).length ≤ 2 := by rw [PySem.Str.length_append]; exact Nat.le_refl 2
    generalize ((⟨#[c1]⟩ : PySem.Str) ++ (⟨#[c2]⟩ : PySem.Str)) = more at hml ⊢
    -- name
    obtain ⟨c3, hc3⟩ := ix_ok sg_len (i := num % 26) (Int.emod_nonneg _ (by decide)) (by have := Int.emod_lt_of_pos num (show (0 : Int) < 26 by decide); omega)
    obtain ⟨v4, hv4, hm4⟩ := at_four (xs := [V.int 0, V.int 0, V.int 1, V.int 2]) (n := 4) rfl (i := (num / 26) % 4) (Int.emod_nonneg _ (by decide)) (Int.emod_lt_of_pos _ (by decide))
    obtain ⟨m4, rfl⟩ : ∃ m : Int, v4 = V.int m := by
      simp only [List.mem_cons, List.not_mem_nil, or_false] at hm4
      rcases hm4 with rfl | rfl | rfl | rfl <;> exact ⟨_, rfl⟩
    refine ⟨_, rfl, _, rfl, .inl ⟨_, rfl, _, 26, rfl, rfl, (by decide : (0 : Int) < 26), sgT, _, c3, rfl, rfl, by rw [sg_len]; exact len_line (by decide), hc3, ?_⟩⟩
    refine ⟨_, rfl, (by show 4 ≤ sizeLine; decide), fun p4 hp4 => ⟨_, rfl, num, 26, rfl, rfl, div_ok (by decide) (by decide), .inl ⟨_, rfl, _, 4, rfl, rfl, (by decide : (0 : Int) < 4), p4, _, _, _, rfl, rfl, upd_same, hv4, m4, rfl, more, rfl, len_line (by omega), ?_⟩⟩⟩
    have s4 := same_new hp4 (HO.lst [V.int 0, V.int 0, V.int 1, V.int 2])
    have hcut := cutS_length more none (some m4)
    generalize cutS more none (some m4) = tail at hcut ⊢
    refine ⟨_, _, rfl, rfl, len_line (by show 1 + tail.length ≤ 100000; omega), ?_⟩
    have hnl : ((⟨#[c3]⟩ : PySem.Str) ++ tail).length = 1 + tail.length := by rw [PySem.Str.length_append]; rfl
    generalize ((⟨#[c3]⟩ : PySem.Str) ++ tail) = name at hnl ⊢
    generalize upd H3 p4 (.lst [V.int 0, V.int 0, V.int 1, V.int 2]) = H4 at s4 ⊢
    -- at, plain
    have at0' : 0 ≤ (num / 142376) % 11 := Int.emod_nonneg _ (by decide)
    have at1' : (num / 142376) % 11 < 11 := Int.emod_lt_of_pos _ (by decide)
    refine ⟨_, rfl, num, 142376, rfl, rfl, div_ok (by decide) (by decide), .inl ⟨_, rfl, _, 11, rfl, rfl, (by decide : (0 : Int) < 11), ?_⟩⟩
    obtain ⟨v5, hv5, hm5⟩ := at_four (xs := (Txt.words plT).map V.str) (n := 11) (by rw [List.length_map]; exact pl_words.1) (i := ((num / 142376) % 11)) at0' at1'
    obtain ⟨plain, hpm, rfl⟩ := List.mem_map.mp hm5
    have hpl := pl_words.2 plain hpm
    refine ⟨⟨_, rfl⟩, _, rfl, rfl, pl_len, fun p5 hp5 => ⟨_, rfl, p5, _, ((num / 142376) % 11), _, rfl, rfl, upd_same, hv5, ?_⟩⟩
    have s5 := s4.trans (same_new hp5 (HO.lst ((Txt.words plT).map V.str)))
    generalize upd H4 p5 (.lst ((Txt.words plT).map V.str)) = H5 at s5 ⊢
    -- name, again
    obtain ⟨c6, hc6⟩ := ix_ok (z := name) (n := name.length) rfl (i := 0) (by decide) (by omega)
    have hcA := cutS_length trT none (some ((num / 142376) % 11))
    have hcB := cutS_length trT (some (((num / 142376) % 11) + 1)) none
    have htr := tr_len
    have hrs := rs_len
    have hrs2 : (PySem.Str.ofString "reservation_x").length ≤ 100 := rs_len
    refine ⟨_, rfl, _, rfl, _, _, rfl, rfl, len_line (by omega), ?_⟩
    refine ⟨_, rfl, ((num / 142376) % 11), rfl, trT, rfl, len_line (by omega), ?_⟩
    generalize cutS trT none (some ((num / 142376) % 11)) = cA at hcA ⊢
    refine ⟨_, rfl, name, 0, c6, rfl, rfl, len_line (by omega), hc6, _, _, rfl, rfl, len_line (by show cA.length + 1 ≤ 100000; omega), ?_⟩
    have hl6 : (cA ++ (⟨#[c6]⟩ : PySem.Str)).length = cA.length + 1 := by rw [PySem.Str.length_append]; rfl
    generalize (cA ++ (⟨#[c6]⟩ : PySem.Str)) = cC at hl6 ⊢
    refine ⟨_, rfl, ((num / 142376) % 11), 1, rfl, rfl, _, rfl, trT, rfl, len_line (by omega), ?_⟩
    generalize cutS trT (some (((num / 142376) % 11) + 1)) none = cB at hcB ⊢
    refine ⟨_, _, rfl, rfl, len_line (by omega), _, rfl, (by show 4 ≤ sizeLine; decide), fun p6 hp6 => ?_⟩
    have hlA : (rsT ++ name).length ≤ 200 := by rw [PySem.Str.length_append]; omega
    have hlB : (cC ++ cB).length ≤ 300 := by rw [PySem.Str.length_append]; omega
    obtain ⟨v6, hv6, hm6⟩ := at_four (xs := [V.str name, V.str (rsT ++ name), V.str (cC ++ cB), V.str plain]) (n := 4) rfl (i := share) r0 (by omega)
    obtain ⟨nm6, rfl, hl7⟩ : ∃ z : PySem.Str, v6 = V.str z ∧ z.length ≤ 1000 := by
      simp only [List.mem_cons, List.not_mem_nil, or_false] at hm6
      rcases hm6 with rfl | rfl | rfl | rfl
      · exact ⟨_, rfl, by omega⟩
      · exact ⟨_, rfl, by omega⟩
      · exact ⟨_, rfl, by omega⟩
      · exact ⟨_, rfl, by omega⟩
    refine ⟨_, rfl, p6, _, share, _, rfl, rfl, upd_same, hv6, ?_⟩
    have s6 := s5.trans (same_new hp6 (HO.lst [V.str name, V.str (rsT ++ name), V.str (cC ++ cB), V.str plain]))
    generalize upd H5 p6 (.lst [V.str name, V.str (rsT ++ name), V.str (cC ++ cB), V.str plain]) = H6 at s6 ⊢
    dsimp only [gName]
    show tSeq ?A ?B ?cs ?s ?h
    have last : ∀ (z : PySem.Str) (z5 z6 z7 z9 z10 : Option V) (H7 : Hp), Same H6 H7 → ?B ?cs [some (V.ref a), some (V.int 6), some (V.str sgT), some (V.int share), some (V.ref q), z5, z6, z7, some (V.str z), z9, z10] H7 := by
      intro z z5 z6 z7 z9 z10 H7 s7
      have s37 := s6.trans s7
      have hq7 := s37 _ _ hq3
      have kb7 : Kb3 a c q H2 H7 := fun b o m1 m2 m3 e => s37 _ _ (kbq b o m1 m2 m3 e)
      have ht7 := ht3.mono s37 (Nat.le_refl _)
      refine ⟨_, rfl, _, rfl, z, q, ns, rfl, rfl, .inl hq7, _, rfl, ?_⟩
      by_cases hz : z ∈ ns
      · exact ifF (by rw [decide_eq_true hz]; rfl) ⟨_, _, _, _, _, _, ns, rfl, kb7, ht7, hq7, nd, Nat.le_succ_of_le hl, fun _ e => by rw [e] at hz; cases hz⟩
      · refine ifT (by rw [decide_eq_false hz]; rfl) ⟨_, rfl, .inl ⟨rfl, _, SqL.of hq7⟩, _, rfl, q, _, _, rfl, rfl, hq7, small_line (by rw [List.length_map]; omega), ?_⟩
        refine ⟨_, _, _, _, _, _, ns ++ [z], rfl, fun b o m1 m2 m3 e => by rw [upd_ne m3]; exact kb7 b o m1 m2 m3 e, ?_, by rw [upd_same, List.map_append]; rfl, ?_, ?_, fun _ e => by simp at e⟩
        · obtain ⟨cells, p, x, y, g1, g2, g3, g4⟩ := ht7.ex
          exact ⟨⟨cells, p, x, y, by rw [upd_ne (Ne.symm nqa)]; exact g1, by rw [upd_ne (Ne.symm nqc)]; exact g2, g3, g4⟩, ht.ne⟩
        · rw [List.nodup_append]
          refine ⟨nd, List.nodup_cons.mpr ⟨List.not_mem_nil, List.nodup_nil⟩, fun x hx y hy e => ?_⟩
          rw [List.mem_singleton.mp hy] at e
          exact hz (e ▸ hx)
        · rw [List.length_append, List.length_singleton]
          omega
    refine ⟨_, rfl, (by show 10 ≤ sizeLine; decide), fun p7 hp7 => ⟨nm6, p7, ["by", "of", "or", "to", "and", "key", "not", "one", "set", "sum"], rfl, rfl, .inr upd_same, _, rfl, ?_⟩⟩
    have s7 := same_new hp7 (HO.tup [V.str "by", V.str "of", V.str "or", V.str "to", V.str "and", V.str "key", V.str "not", V.str "one", V.str "set", V.str "sum"])
    refine ite2 (fun _ => ?_) (fun _ => ?_)
    · exact ⟨_, rfl, _, _, rfl, rfl, len_line (by have := us_len; omega), last _ _ _ _ _ _ _ s7⟩
    · exact last _ _ _ _ _ _ _ s7
  · rintro σ H' ⟨y5, y6, y7, y8, y9, y10, ns, rfl, kb, ht', hq', nd, hl, hne⟩
    refine ⟨_, rfl, k q ns H' (fun b o m1 m2 e => kb b o m1 m2 (ne_of_none (kb0 b o m1 m2 e) hqH) (kb2 b o m1 m2 (s1 _ _ (kb0 b o m1 m2 e)))) ?_ hq' nqa nqc nd (hne (by omega)) (by omega)⟩
    obtain ⟨cells, p, x, y, g1, g2, g3, g4⟩ := ht'.ex
    exact ⟨⟨cells, p, x, y, g1, g2, g3, by omega⟩, ht'.ne⟩
end
end K49
namespace K49
open PySem PySem.Spec PyProof.Rows L2
abbrev s_law_fact : Stmt := top 23
abbrev n_law_fact : List PySem.Str := ["_law_tape_here", "_law_names_here", "_law_depth", "_law_choice", "_law_left", "_law_many", "_law_k"]
theorem sc_law_fact : FnScope n_law_fact ["_law_tape_here", "_law_names_here", "_law_depth"] (defScope s_law_fact) := ⟨rfl, rfl, rfl, by decide +kernel, rfl, by decide +kernel, by decide +kernel⟩
theorem Kb3.kb2 {a c q : Addr} {H H1 H' : Hp} (s : Same H H1) (k : Kb3 a c q H1 H') (n : H q = none) : Kb2 a c H H' := fun b o n1 n2 e => k b o n1 n2 (ne_of_none e n) (s _ _ e)
theorem Kb3.ts {a c q : Addr} {n : Nat} {xs : List V} {H H' : Hp} (k : Kb3 a c q H H') (t : TapeAt H a c n) (e1 : H q = some (.lst xs)) : TS H H' := fun b xs e => by
  obtain ⟨cells, p, x, y, g1, g2, _, _⟩ := t.ex
  exact k b _ (fun z => by rw [z, g1] at e; cases e) (fun z => by rw [z, g2] at e; cases e) (fun z => by rw [z, e1] at e; cases e) e
theorem TapeAt.up {H : Hp} {a c : Addr} {n m : Nat} (t : TapeAt H a c n) (h : n ≤ m) : TapeAt H a c m := t.mono (Same.refl _) h
theorem TapeAt.put {H : Hp} {a c q : Addr} {n : Nat} (t : TapeAt H a c n) (o : HO) (h1 : q ≠ a) (h2 : q ≠ c) : TapeAt (upd H q o) a c n := by
  obtain ⟨cells, p, x, y, g1, g2, g3, g4⟩ := t.ex
  exact ⟨⟨cells, p, x, y, by rw [upd_ne (Ne.symm h1)]; exact g1, by rw [upd_ne (Ne.symm h2)]; exact g2, g3, g4⟩, t.ne⟩
/-- a list of N data that are drawn one by one -/
theorem lcR {γ : Type} {lo : Int} {g : TG} {tt : TT} {te : TE} {sl : List Nat} {σ : L2.St} {H1 : Hp} {D : Addr} {Qd : Hp → Prop} {a c : Addr} {n0 cost N : Nat} (enc : γ → T) (ok : γ → Prop) (ht : TapeAt H1 a c n0) (hD : H1 D = none) (hN : N ≤ 1000)
    (hs : ∀ i H', i < N → Kb3 a c D H1 H' → TS H1 H' → TapeAt H' a c (n0 + i * cost) → ∀ (Qy : V → Hp → Prop) (Qn : Hp → Prop), (∀ x y H4, ok x → Kb2 a c H' H4 → TapeAt H4 a c (n0 + i * cost + cost) → At H4 (enc x) y → Qy y H4) →
      g (.int (lo + i)) (wipe σ sl) H' fun σ2 H2 => wipe σ2 sl = wipe σ sl ∧ tt σ2 H2 fun b H3 => if b = true then te σ2 H3 Qy else Qn H3)
    (hd : ∀ H' ys (xs : List γ), Kb2 a c H1 H' → TapeAt H' a c (n0 + N * cost) → H' D = some (.lst ys) → Ats H' (xs.map enc) ys → xs.length = N → (∀ x ∈ xs, ok x) → D ≠ a → D ≠ c → Qd H') :
    ∃ W : Nat → Nat → Hp → Prop, (∃ m, W 0 m (upd H1 D (.lst []))) ∧ ∀ i m H, W i m H →
      ((Itr lo N).stop i H ∧ Qd H) ∨ ((Itr lo N).go i H ∧ ∃ Nx : Hp → Prop, (∀ H', Nx H' → ∃ m', m' < m ∧ W (i + 1) m' H') ∧ ∀ x H', (Itr lo N).yld i H x H' → g x (wipe σ sl) H' fun σ2 H2 => wipe σ2 sl = wipe σ sl ∧ tt σ2 H2 fun b H3 =>
        if b = true then te σ2 H3 fun y H4 => ∃ acc, H4 D = some (.lst acc) ∧ acc.length < sizeLine ∧ Nx (upd H4 D (.lst (acc ++ [y]))) else Nx H3) := by
  obtain ⟨nDa, nDc⟩ := ht.free hD
  have ts1 : ∀ H', Kb3 a c D H1 H' → TS H1 H' := fun H' k b xs e => by
    obtain ⟨cells, p, x, y, g1, g2, _, _⟩ := ht.ex
    exact k b _ (fun z => by rw [z, g1] at e; cases e) (fun z => by rw [z, g2] at e; cases e) (fun z => by rw [z, hD] at e; cases e) e
  refine lc_range (fun i H' => Kb3 a c D H1 H' ∧ TapeAt H' a c (n0 + i * cost) ∧ ∃ (ys : List V) (xs : List γ), H' D = some (.lst ys) ∧ Ats H' (xs.map enc) ys ∧ xs.length = i ∧ ∀ x ∈ xs, ok x) ⟨fun b o _ _ n3 e => by rw [upd_ne n3]; exact e, ?_, [], [], upd_same, .nil, rfl, fun x hx => by cases hx⟩ ?_ ?_
  · rw [Nat.zero_mul, Nat.add_zero]
    exact ht.put _ nDa nDc
  · rintro i H' hi ⟨kb, ht', ys, xs, hD', hat, hl, hok⟩
    refine hs i H' hi kb (ts1 _ kb) ht' _ _ fun x y H4 hx kb4 ht4 hy => ?_
    have hD4 := kb4 _ _ nDa nDc hD'
    have hyl : ys.length = i := by rw [hat.len, List.length_map]; exact hl
    have tsu : TS H4 (upd H4 D (.lst (ys ++ [y]))) := TS.lst hD4
    refine ⟨ys, hD4, small_line (by omega), fun b o n1 n2 n3 e => by rw [upd_ne n3]; exact kb4 b o n1 n2 (kb b o n1 n2 n3 e), ?_, ys ++ [y], xs ++ [x], upd_same, ?_, by rw [List.length_append, hl]; rfl, fun z hz => ?_⟩
    · rw [show n0 + (i + 1) * cost = n0 + i * cost + cost from by rw [Nat.succ_mul, Nat.add_assoc]]
      exact ht4.put _ nDa nDc
    · rw [List.map_append]
      exact (hat.mono ((ht'.ts kb4).trans tsu)).app (.cons (hy.mono tsu) .nil)
    · rcases List.mem_append.mp hz with h | h
      · exact hok z h
      · rw [List.mem_singleton.mp h]
        exact hx
  · rintro H' ⟨kb, ht', ys, xs, hD', hat, hl, hok⟩
    exact hd H' ys xs (fun b o n1 n2 e => kb b o n1 n2 (ne_of_none e hD) e) ht' hD' hat hl hok nDa nDc
def bud (d : Nat) : Nat := 10 ^ (d + 1)
theorem bud_ge (d : Nat) : 10 ≤ bud d := by
  unfold bud
  rw [Nat.pow_succ]
  have : 1 ≤ 10 ^ d := Nat.pos_of_ne_zero (by simp)
  omega
theorem bud_succ (d : Nat) : bud (d + 1) = 10 * bud d := by
  unfold bud
  rw [Nat.pow_succ 10 (d + 1), Nat.mul_comm]
theorem at_name {ns : List PySem.Str} (hne : ns ≠ []) {r : Int} (h0 : 0 ≤ r) (h : r < ((ns.map V.str).length : Int) ∨ r < 1) : ∃ x, atI (ns.map V.str) r = some (V.str x) ∧ x ∈ ns := by
  have hp : 0 < ns.length := List.length_pos_iff.mpr hne
  rw [List.length_map] at h
  obtain ⟨v, hv, hm⟩ := at_four (xs := ns.map V.str) (n := ns.length) (List.length_map _) h0 (by omega)
  obtain ⟨x, hx, rfl⟩ := List.mem_map.mp hm
  exact ⟨x, hv, hx⟩
/-- n is one more than the depth -/
def spFact (m : Nat) : Sp := fun vs H Q _ => ∃ (d : Nat) (a c np : Addr) (n : Nat) (ns : List PySem.Str), m = d + 1 ∧ vs = [V.ref a, V.ref np, V.int d] ∧ TapeAt H a c n ∧ n + bud d ≤ 80000 ∧ H np = some (.lst (ns.map V.str)) ∧ np ≠ a ∧ np ≠ c ∧ ns ≠ [] ∧ ns.length ≤ 100 ∧
  ∀ (u : V) (f : Fs) H', Kb2 a c H H' → TapeAt H' a c (n + bud d) → At H' (tF f) u → FOk (d + 1) f → (∀ x ∈ nm f, x ∈ ns) → Q u H'
section
variable {P : Program} {w : World} {K : PySem.W.Frag} {mg : PySem.Str → Option Value} {base : Heap} {f : Addr} {fd : FuncData}
theorem fact_none : FnOk P w K mg base CX0 1 f fd ["_law_tape_here", "_law_names_here", "_law_depth"] (spFact 0) := by
  have no : ∀ vs H Q E, ¬ spFact 0 vs H Q E := fun vs H Q E ⟨_, _, _, _, _, _, z, _⟩ => by cases z
  exact ⟨fun vs H Q E h => absurd h (no vs H Q E), fun A outer s H args us vs Q E _ _ _ _ h => absurd h (no vs H Q E)⟩
theorem ok_fact (F : Fun K "_law_fact" "_law_fact" s_law_fact f fd) (B : Blt mg) (D_draw : Def P w K mg base CX0 1 "_law_draw" ["_law_tape_here", "_law_many"] spDraw) (m : Nat) (D_fact : Def P w K mg base CX0 (m + 1) "_law_fact" ["_law_tape_here", "_law_names_here", "_law_depth"] (spFact m)) :
    FnOk P w K mg base CX0 (m + 2) f fd ["_law_tape_here", "_law_names_here", "_law_depth"] (spFact (m + 1)) := by
  refine F.ok sc_law_fact (fun vs H Q E h => ?_) (fun cdv A outer s H vs Q E hr h => ?_)
  · obtain ⟨d, a, c, np, n, ns, _, rfl, _⟩ := h
    rfl
  obtain ⟨d, a, c, np, n, ns, hm, rfl, ht, hn, hnp, nna, nnc, hne, h100, k⟩ := h
  obtain rfl : m = d := by omega
  have hb := bud_ge m
  refine ⟨_, (pss_cons (ps_set (i := 3) sc_law_fact.nd rfl (Or.inl rfl) (pe_callD D_draw (hr.mono (by omega)) (by rfl) pass0 (pa_cons (pv 0) (pa_cons pe_int pa_nil))))
    (pss_cons (ps_if (PW.pt (pw_and (pt_cmpR op_gt (pv 2) pe_int (nomark _)) (pw_and1 (pt_cmpR op_eq (pv 3) pe_int (nomark _))))) (pss_one (ps_ret (pe_tup (pa_cons pe_str (pa_cons (pe_callD D_fact (hr.mono (by omega)) (by rfl) pass0 (pa_cons (pv 0) (pa_cons (pv 1) (pa_cons (pe_op op_sub (pv 2) pe_int) pa_nil)))) pa_nil))))) pss_nil)
    (pss_cons (ps_if (PW.pt (pw_and (pt_cmpR op_gt (pv 2) pe_int (nomark _)) (pw_and1 (pt_cmpR op_eq (pv 3) pe_int (nomark _))))) (pss_cons (ps_set (i := 4) sc_law_fact.nd rfl (Or.inl rfl) (pe_callD D_fact (hr.mono (by omega)) (by rfl) pass0 (pa_cons (pv 0) (pa_cons (pv 1) (pa_cons (pe_op op_sub (pv 2) pe_int) pa_nil)))))
    (pss_one (ps_ret (pe_tup (pa_cons pe_str (pa_cons (pv 4) (pa_cons (pe_callD D_fact (hr.mono (by omega)) (by rfl) pass0 (pa_cons (pv 0) (pa_cons (pv 1) (pa_cons (pe_op op_sub (pv 2) pe_int) pa_nil)))) pa_nil))))))) pss_nil)
    (pss_cons (ps_if (PW.pt (pw_and (pt_cmpR op_gt (pv 2) pe_int (nomark _)) (pw_and1 (pt_cmpR op_lt (pv 3) pe_int (nomark _))))) (pss_cons (ps_set (i := 5) sc_law_fact.nd rfl (Or.inl rfl) (pe_ix ixL0 (pe_lst (pa_cons pe_int (pa_cons pe_int (pa_cons pe_int pa_nil)))) (pe_callD D_draw (hr.mono (by omega)) (by rfl) pass0 (pa_cons (pv 0) (pa_cons pe_int pa_nil))) (fun _ _ => rfl)))
    (pss_cons (ps_if (PW.pt (pw_and (pt_cmpR op_eq (pv 2) pe_int (nomark _)) (pw_and1 (pt_cmpR op_eq (pe_callD D_draw (hr.mono (by omega)) (by rfl) pass0 (pa_cons (pv 0) (pa_cons pe_int pa_nil))) pe_int (nomark _))))) (pss_one (ps_set (i := 5) sc_law_fact.nd rfl (Or.inl rfl) pe_int)) pss_nil)
    (pss_one (ps_ret (pe_tup (pa_cons (pe_ix ixL0 (pe_lst (pa_cons pe_str (pa_cons pe_str (pa_cons pe_str pa_nil)))) (pe_op op_sub (pv 3) pe_int) (fun _ _ => rfl)) (pa_cons (pe_callTy cr_tuple (by rfl) B.tuple (by decide +kernel) (pa_cons (pe_lc (own := [("_law_k", 6)]) (g := (gName 6)) rfl sc_law_fact.nd (pi_range1 (by rfl) B.range (pa_cons (pv 5) pa_nil)) (blkOk_by (own := [("_law_k", 6)]) (N := n_law_fact) (sc := defScope s_law_fact) (by decide +kernel)) (fun _ _ _ _ _ => (pg_name (i := 6) sc_law_fact.nd rfl (Or.inl rfl))) (fun _ _ _ _ _ => pts_nil) (fun _ _ _ _ _ => (pe_callD D_fact (hr.mono (by omega)) (by rfl) pass0 (pa_cons (pv 0) (pa_cons (pv 1) (pa_cons (pe_op op_sub (pv 2) pe_int) pa_nil)))))) pa_nil)) pa_nil))))))) pss_nil)
    (pss_cons (ps_if (pt_cmpR op_eq (pv 3) pe_int (nomark _)) (pss_one (ps_ret (pe_ix ixL0 (pe_lst (pa_cons (pe_tup (pa_cons pe_str pa_nil)) (pa_cons (pe_tup (pa_cons pe_str pa_nil)) pa_nil))) (pe_callD D_draw (hr.mono (by omega)) (by rfl) pass0 (pa_cons (pv 0) (pa_cons pe_int pa_nil))) (fun _ _ => rfl)))) pss_nil)
    (pss_cons (ps_if (pt_cmpR op_eq (pv 3) pe_int (nomark _)) (pss_one (ps_ret (pe_tup (pa_cons pe_str (pa_cons (pe_callTy cr_tuple (by rfl) B.tuple (by decide +kernel) (pa_cons (pe_lc (own := [("_law_k", 6)]) (g := (gName 6)) rfl sc_law_fact.nd (pi_range1 (by rfl) B.range (pa_cons (pe_op op_add pe_int (pe_callD D_draw (hr.mono (by omega)) (by rfl) pass0 (pa_cons (pv 0) (pa_cons pe_int pa_nil)))) pa_nil)) (blkOk_by (own := [("_law_k", 6)]) (N := n_law_fact) (sc := defScope s_law_fact) (by decide +kernel)) (fun _ _ _ _ _ => (pg_name (i := 6) sc_law_fact.nd rfl (Or.inl rfl))) (fun _ _ _ _ _ => pts_nil) (fun _ _ _ _ _ => (pe_ix ixL0 (pv 1) (pe_callD D_draw (hr.mono (by omega)) (by rfl) pass0 (pa_cons (pv 0) (pa_cons (pe_callB cr_len (by rfl) B.len (by decide +kernel) (pa_cons (pv 1) pa_nil)) pa_nil))) (fun _ _ => rfl)))) pa_nil)) pa_nil))))) pss_nil)
    (pss_one (ps_ret (pe_tup (pa_cons pe_str (pa_cons (pe_ix ixL0 (pv 1) (pe_callD D_draw (hr.mono (by omega)) (by rfl) pass0 (pa_cons (pv 0) (pa_cons (pe_callB cr_len (by rfl) B.len (by decide +kernel) (pa_cons (pv 1) pa_nil)) pa_nil))) (fun _ _ => rfl)) pa_nil))))))))))), ?_⟩
  refine ⟨_, rfl, a, c, n, 10, rfl, ht, by omega, by decide, fun ch H1 c0 c1 kb1 ht1 => ?_⟩
  have hnp1 := kb1 _ _ nna nnc hnp
  dsimp only [gName]
  show tSeq ?A1 (tSeq ?A2 (tSeq ?A3 ?B3)) ?cs ?s ?h
  have base : ?B3 ?cs ?s ?h := by
    refine ⟨_, rfl, rfl, _, rfl, ?_⟩
    refine ite2 (fun _ => ?_) (fun _ => ?_)
    · refine ⟨(by show 1 ≤ sizeLine; decide), fun t1 ht1' => ⟨(by show 1 ≤ sizeLine; decide), fun t2 ht2' => ⟨two_line, fun p hp => ?_⟩⟩⟩
      have g1 := same_new ht1' (HO.tup [V.str "true"])
      have e1 : (upd H1 t1 (.tup [V.str "true"])) t1 = some (.tup [V.str "true"]) := upd_same
      generalize upd H1 t1 (.tup [V.str "true"]) = H2 at g1 e1 ht2' hp ⊢
      have g2 := same_new ht2' (HO.tup [V.str "false"])
      have e2 : (upd H2 t2 (.tup [V.str "false"])) t2 = some (.tup [V.str "false"]) := upd_same
      generalize upd H2 t2 (.tup [V.str "false"]) = H3 at g2 e2 hp ⊢
      have g3 := same_new hp (HO.lst [V.ref t1, V.ref t2])
      have e3 : (upd H3 p (.lst [V.ref t1, V.ref t2])) p = some (.lst [V.ref t1, V.ref t2]) := upd_same
      generalize upd H3 p (.lst [V.ref t1, V.ref t2]) = H4 at g3 e3 ⊢
      have s4 := g1.trans (g2.trans g3)
      have ht4 := ht1.mono s4 (Nat.le_refl _)
      obtain ⟨npa, npc⟩ := (ht1.mono (g1.trans g2) (Nat.le_refl _)).free hp
      refine ⟨_, rfl, a, c, n + 1, 2, rfl, ht4, by omega, by decide, fun r H5 r0 r1 kb5 ht5 => ?_⟩
      have e5 := kb5 _ _ npa npc e3
      have ts5 := ht4.ts kb5
      have kb : Kb2 a c H H5 := (kb1.trans (Kb2.of s4)).trans kb5
      have hr2 : r = 0 ∨ r = 1 := by omega
      rcases hr2 with rfl | rfl
      · exact ⟨p, _, 0, V.ref t1, rfl, rfl, e5, at0, k _ K49.F.tt H5 kb (ht5.up (by omega)) (at_tup (.cons rfl .nil) (ts5 _ _ (g3 _ _ (g2 _ _ e1)))) True.intro (fun x hx => by cases hx)⟩
      · exact ⟨p, _, 1, V.ref t2, rfl, rfl, e5, at1, k _ K49.F.ff H5 kb (ht5.up (by omega)) (at_tup (.cons rfl .nil) (ts5 _ _ (g3 _ _ e2))) True.intro (fun x hx => by cases hx)⟩
    refine ⟨_, rfl, rfl, _, rfl, ?_⟩
    refine ite2 (fun _ => ?_) (fun _ => ?_)
    · refine ⟨_, rfl, a, c, n + 1, 3, rfl, ht1, by omega, by decide, fun r H2 r0 r1 kb2 ht2 => ⟨1, r, rfl, rfl, 1 + r, rfl, by omega, by omega, fun D hD => ?_⟩⟩
      have hnp2 := kb2 _ _ nna nnc hnp1
      have hN : (1 + r).toNat ≤ 3 := by omega
      refine lcR (cost := 1) T.s (fun x => x ∈ ns) ht2 hD (by omega) (fun i H' hi kb3 ts3 ht3 Qy Qn ky => ⟨rfl, ?_⟩) fun H3 ys xs kb3 ht3 hys hat hl hok nDa nDc => ?_
      · have hnp3 := kb3 _ _ nna nnc (ne_of_none hnp2 hD) hnp2
        refine ⟨_, rfl, _, rfl, _, rfl, np, _, rfl, .inl hnp3, a, c, n + 1 + 1 + i * 1, _, rfl, ht3, by omega, by rw [List.length_map]; omega, fun z H4 z0 z1 kb4 ht4 => ?_⟩
        obtain ⟨x, hx, hxm⟩ := at_name hne z0 z1
        exact ⟨np, _, z, V.str x, rfl, rfl, kb4 _ _ nna nnc hnp3, hx, ky x _ _ hxm kb4 ht4 rfl⟩
      · rw [Ats.strs.mp hat] at hys
        refine ⟨D, _, rfl, hys, fun t1 ht1' => ⟨two_line, fun t2 ht2' => ?_⟩⟩
        have g1 := same_new ht1' (HO.tup (xs.map V.str))
        have e1 : (upd H3 t1 (.tup (xs.map V.str))) t1 = some (.tup (xs.map V.str)) := upd_same
        generalize upd H3 t1 (.tup (xs.map V.str)) = H4 at g1 e1 ht2' ⊢
        have g2 := same_new ht2' (HO.tup [V.str "one of", V.ref t1])
        refine k _ (K49.F.one xs) _ (((kb1.trans kb2).trans kb3).trans (Kb2.of (g1.trans g2))) (ht3.mono (g1.trans g2) (by omega)) (at_tup (.cons rfl (.cons (at_tS.mpr ⟨t1, rfl, g2 _ _ e1⟩) .nil)) upd_same) (show xs.length ≤ 10 by omega) hok
    · refine ⟨_, rfl, _, rfl, _, rfl, np, _, rfl, .inl hnp1, a, c, n + 1, _, rfl, ht1, by omega, by rw [List.length_map]; omega, fun z H4 z0 z1 kb4 ht4 => ?_⟩
      obtain ⟨x, hx, hxm⟩ := at_name hne z0 z1
      refine ⟨np, _, z, V.str x, rfl, rfl, kb4 _ _ nna nnc hnp1, hx, two_line, fun t1 ht1' => ?_⟩
      have g1 := same_new ht1' (HO.tup [V.str "commits", V.str x])
      exact k _ (K49.F.com x) _ ((kb1.trans kb4).trans (Kb2.of g1)) (ht4.mono g1 (by omega)) (at_tup (.cons rfl (.cons rfl .nil)) upd_same) True.intro (fun y hy => by rw [List.mem_singleton.mp hy]; exact hxm)
  cases m with
  | zero =>
    refine ⟨_, rfl, _, 0, rfl, rfl, _, rfl, ifF rfl (ifF rfl ?_)⟩
    refine ⟨_, rfl, _, 0, rfl, rfl, _, rfl, ifF rfl (ifF rfl ?_)⟩
    refine ⟨_, rfl, _, 0, rfl, rfl, _, rfl, ifF rfl (ifF rfl ?_)⟩
    exact base
  | succ m =>
    have hbs := bud_succ m
    have hbm := bud_ge m
    have hd0 : decide (((m + 1 : Nat) : Int) > 0) = true := decide_eq_true (by omega)
    have hsub : V.int (((m + 1 : Nat) : Int) - 1) = V.int (m : Int) := congrArg V.int (by omega)
    -- one part
    have part : ∀ (H2 : Hp) (n2 : Nat) (Q2 : VK), TapeAt H2 a c n2 → n2 + bud m ≤ 80000 → H2 np = some (.lst (ns.map V.str)) → (∀ (u : V) (f : Fs) H', Kb2 a c H2 H' → TapeAt H' a c (n2 + bud m) → At H' (tF f) u → FOk (m + 1) f → (∀ x ∈ nm f, x ∈ ns) → Q2 u H') →
        spFact (m + 1) [V.ref a, V.ref np, V.int (((m + 1 : Nat) : Int) - 1)] H2 Q2 E := fun H2 n2 Q2 h1 h2 h3 h4 => ⟨m, a, c, np, n2, ns, rfl, by rw [hsub], h1, h2, h3, nna, nnc, hne, h100, h4⟩
    refine ⟨_, rfl, _, 0, rfl, rfl, _, rfl, ifT hd0 ⟨_, rfl, rfl, _, rfl, ?_⟩⟩
    refine ite2 (fun _ => ?_) (fun _ => ?_)
    · refine ⟨_, rfl, _, rfl, _, rfl, _, 1, rfl, rfl, part _ (n + 1) _ ht1 (by omega) hnp1 fun u f H2 kb2 ht2 hu hf hnm => ⟨two_line, fun t1 ht1' => ?_⟩⟩
      have g1 := same_new ht1' (HO.tup [V.str "not", u])
      exact k _ (K49.F.nt f) _ ((kb1.trans kb2).trans (Kb2.of g1)) (ht2.mono g1 (by omega)) (at_tup (.cons rfl (.cons (hu.mono (.of g1)) .nil)) upd_same) hf hnm
    refine ⟨_, rfl, _, 0, rfl, rfl, _, rfl, ifT hd0 ⟨_, rfl, rfl, _, rfl, ?_⟩⟩
    refine ite2 (fun _ => ?_) (fun _ => ?_)
    · refine ⟨_, rfl, _, rfl, _, rfl, _, 1, rfl, rfl, part _ (n + 1) _ ht1 (by omega) hnp1 fun u f H2 kb2 ht2 hu hf hnm => ?_⟩
      have hnp2 := kb2 _ _ nna nnc hnp1
      refine ⟨_, rfl, _, rfl, _, rfl, _, rfl, _, 1, rfl, rfl, part _ (n + 1 + bud m) _ ht2 (by omega) hnp2 fun u2 f2 H3 kb3 ht3 hu2 hf2 hnm2 => ⟨(by show 3 ≤ sizeLine; decide), fun t1 ht1' => ?_⟩⟩
      have g1 := same_new ht1' (HO.tup [V.str "implies", u, u2])
      refine k _ (K49.F.im f f2) _ (((kb1.trans kb2).trans kb3).trans (Kb2.of g1)) (ht3.mono g1 (by omega)) (at_tup (.cons rfl (.cons (hu.mono ((ht2.ts kb3).trans (.of g1))) (.cons (hu2.mono (.of g1)) .nil))) upd_same) ⟨hf, hf2⟩ (fun x hx => ?_)
      rcases List.mem_append.mp hx with h | h
      · exact hnm x h
      · exact hnm2 x h
    rename_i cN0 cN1
    refine ⟨_, rfl, _, 0, rfl, rfl, _, rfl, ifT hd0 ⟨_, rfl, _, _, rfl, rfl, _, rfl, ?_⟩⟩
    by_cases c5 : ch < 5
    case neg => exact ifF (decide_eq_false c5) base
    refine ifT (decide_eq_true c5) ?_
    have ch2 : 2 ≤ ch := by
      have h0 : ch ≠ 0 := fun z => cN0 (decide_eq_true (by rw [z]))
      have h1 : ch ≠ 1 := fun z => cN1 (decide_eq_true (by rw [z]))
      omega
    refine ⟨(by show 3 ≤ sizeLine; decide), fun p hp => ?_⟩
    have g1 := same_new hp (HO.lst [V.int 2, V.int 2, V.int 3])
    have e1 : (upd H1 p (.lst [V.int 2, V.int 2, V.int 3])) p = some (.lst [V.int 2, V.int 2, V.int 3]) := upd_same
    obtain ⟨npa, npc⟩ := ht1.free hp
    generalize upd H1 p (.lst [V.int 2, V.int 2, V.int 3]) = H2 at g1 e1 ⊢
    have ht2 := ht1.mono g1 (Nat.le_refl _)
    refine ⟨_, rfl, a, c, n + 1, 3, rfl, ht2, by omega, by decide, fun r H3 r0 r1 kb3 ht3 => ?_⟩
    obtain ⟨v, hv, hvm⟩ := at_four (xs := [V.int 2, V.int 2, V.int 3]) (n := 3) rfl (i := r) r0 (by omega)
    obtain ⟨my, rfl, hmy⟩ : ∃ k : Nat, v = V.int (k : Int) ∧ k ≤ 6 := by
      simp only [List.mem_cons, List.not_mem_nil, or_false] at hvm
      rcases hvm with rfl | rfl | rfl
      · exact ⟨2, rfl, by decide⟩
      · exact ⟨2, rfl, by decide⟩
      · exact ⟨3, rfl, by decide⟩
    refine ⟨p, _, r, _, rfl, rfl, kb3 _ _ npa npc e1, hv, ?_⟩
    have hnp3 := kb3 _ _ nna nnc (g1 _ _ hnp1)
    have kbH3 : Kb2 a c H H3 := (kb1.trans (Kb2.of g1)).trans kb3
    dsimp only [gName]
    show tSeq ?A4 ?B4 ?cs4 ?s4 ?h4
    have rest : ∀ (my : Nat) (H3 : Hp), my ≤ 6 → Kb2 a c H H3 → TapeAt H3 a c (n + 3) → H3 np = some (.lst (ns.map V.str)) → ?B4 ?cs4 [some (V.ref a), some (V.ref np), some (V.int ((m + 1 : Nat) : Int)), some (V.int ch), none, some (V.int (my : Int)), none] H3 := by
      intro my H3 hmy kbH ht3 hnp3
      refine ⟨(by show 3 ≤ sizeLine; decide), fun p hp => ?_⟩
      have g1 := same_new hp (HO.lst [V.str "and", V.str "or", V.str "or"])
      have e1 : (upd H3 p (.lst [V.str "and", V.str "or", V.str "or"])) p = some (.lst [V.str "and", V.str "or", V.str "or"]) := upd_same
      generalize upd H3 p (.lst [V.str "and", V.str "or", V.str "or"]) = H4 at g1 e1 ⊢
      have ht4 := ht3.mono g1 (Nat.le_refl _)
      have hnp4 := g1 _ _ hnp3
      obtain ⟨mk, wd', hwd, hmk⟩ : ∃ (mk : List Fs → Fs) (wd' : PySem.Str), atI [V.str "and", V.str "or", V.str "or"] (ch - 2) = some (V.str wd') ∧ ∀ xs, tF (mk xs) = .t [.s wd', .t (xs.map tF)] ∧ (∀ n, FOk (n + 1) (mk xs) = (xs.length ≤ 10 ∧ ∀ g ∈ xs, FOk n g)) ∧ nm (mk xs) = nms xs := by
        have h3 : ch = 2 ∨ ch = 3 ∨ ch = 4 := by omega
        rcases h3 with rfl | rfl | rfl
        · exact ⟨K49.F.an, "and", at0, fun xs => ⟨by rw [tF, tFs_map] <;> rfl, fun n => rfl, rfl⟩⟩
        · exact ⟨K49.F.oo, "or", at1, fun xs => ⟨by rw [tF, tFs_map] <;> rfl, fun n => rfl, rfl⟩⟩
        · exact ⟨K49.F.oo, "or", at2, fun xs => ⟨by rw [tF, tFs_map] <;> rfl, fun n => rfl, rfl⟩⟩
      refine ⟨_, rfl, ch, 2, rfl, rfl, p, _, _, _, rfl, rfl, e1, hwd, ?_⟩
      refine ⟨_, rfl, (my : Int), rfl, by omega, by omega, fun D hD => ?_⟩
      have hN : ((my : Int)).toNat ≤ 6 := by omega
      refine lcR (cost := bud m) tF (fun f => FOk (m + 1) f ∧ ∀ x ∈ nm f, x ∈ ns) ht4 hD (by omega) (fun i H' hi kb3 ts3 ht5 Qy Qn ky => ⟨rfl, ?_⟩) fun H5 ys xs kb5 ht5 hys hat hl hok nDa nDc => ?_
      · have hnp5 := kb3 _ _ nna nnc (ne_of_none hnp4 hD) hnp4
        have hib : i * bud m ≤ 5 * bud m := Nat.mul_le_mul_right _ (by omega)
        exact ⟨_, rfl, _, rfl, _, rfl, _, 1, rfl, rfl, part _ (n + 3 + i * bud m) _ ht5 (by omega) hnp5 fun u f H6 kb6 ht6 hu hf hnm => ky f u _ ⟨hf, hnm⟩ kb6 ht6 hu⟩
      · refine ⟨D, ys, rfl, hys, fun t1 ht1' => ⟨two_line, fun t2 ht2' => ?_⟩⟩
        have q1 := same_new ht1' (HO.tup ys)
        have f1 : (upd H5 t1 (.tup ys)) t1 = some (.tup ys) := upd_same
        generalize upd H5 t1 (.tup ys) = H6 at q1 f1 ht2' ⊢
        have q2 := same_new ht2' (HO.tup [V.str wd', V.ref t1])
        obtain ⟨m1, m2, m3⟩ := hmk xs
        have hNb : ((my : Int)).toNat * bud m ≤ 6 * bud m := Nat.mul_le_mul_right _ hN
        refine k _ (mk xs) _ (((kbH.trans (Kb2.of g1)).trans kb5).trans (Kb2.of (q1.trans q2))) (ht5.mono (q1.trans q2) (by omega)) ?_ ?_ ?_
        · rw [m1]
          exact at_tup (.cons rfl (.cons ⟨t1, ys, rfl, q2 _ _ f1, hat.mono (.of (q1.trans q2))⟩ .nil)) upd_same
        · rw [m2]
          exact ⟨by omega, fun g hg => (hok g hg).1⟩
        · rw [m3, nms_flat]
          intro x hx
          obtain ⟨g, hg, hxg⟩ := List.mem_flatMap.mp hx
          exact (hok g hg).2 x hxg
    refine ⟨_, rfl, rfl, _, rfl, ?_⟩
    refine ite2 (fun _ => ?_) (fun _ => ?_)
    · refine ⟨_, rfl, a, c, n + 2, 4, rfl, ht3, by omega, by decide, fun r2 H4 r20 r21 kb4 ht4 => ⟨rfl, _, rfl, ?_⟩⟩
      have hnp4 := kb4 _ _ nna nnc hnp3
      refine ite2 (fun _ => ?_) (fun _ => ?_)
      · exact rest 6 H4 (Nat.le_refl _) (kbH3.trans kb4) ht4 hnp4
      · exact rest my H4 hmy (kbH3.trans kb4) ht4 hnp4
    · exact ifF rfl (rest my H3 hmy kbH3 (ht3.up (by omega)) hnp3)
end
end K49
namespace K49
open PySem PySem.Spec PyProof.Rows L2
abbrev s_law_same : Stmt := top 22
abbrev n_law_same : List PySem.Str := ["_law_told", "_law_due", "_law_keys", "_law_k"]
theorem sc_law_same : FnScope n_law_same ["_law_told", "_law_due"] (defScope s_law_same) := ⟨rfl, rfl, rfl, by decide +kernel, rfl, by decide +kernel, by decide +kernel⟩
/-- no more than n deep -/
def TOk : Nat → T → Prop
  | 0, _ => False
  | _ + 1, .s _ => True
  | _ + 1, .b _ => True
  | _ + 1, .i _ => True
  | n + 1, .t ts => ts.length ≤ 1000 ∧ ∀ t ∈ ts, TOk n t
def spSame (n : Nat) : Sp := fun vs H Q _ => ∃ (t : T) (x y : V), vs = [x, y] ∧ TOk n t ∧ At H t x ∧ At H t y ∧ ∀ H', Same H H' → Q (.bl true) H'
/-- no tuple: what its type is -/
structure Leaf (K : PySem.W.Frag) (v : V) (tn : String) (bi : Bool) : Prop where
  ty : ∀ H, TyX K H v (.type tn)
  d : kitB tn "dict" = some false
  l : kitB tn "list" = some false
  t : kitB tn "tuple" = some false
  b : kitB tn "bool" = some bi
  is : PySem.W.kitAny K (.type tn) [.type "int", .type "str"] = some true
  n : decide (v = .non) = false
theorem leaf_s {K : PySem.W.Frag} (x : PySem.Str) : Leaf K (.str x) "str" false := ⟨fun H => .base (.str x), by decide +kernel, by decide +kernel, by decide +kernel, by decide +kernel,
  kitAny_cons (b := false) (kit_ty (by decide +kernel)) (fun _ => kitAny_cons (b := true) (kit_ty (by decide +kernel)) (fun z => nomatch z) (fun _ => rfl)) (fun z => nomatch z), decide_eq_false fun z => nomatch z⟩
theorem leaf_b {K : PySem.W.Frag} (x : Bool) : Leaf K (.bl x) "bool" true := ⟨fun H => .base (.bl x), by decide +kernel, by decide +kernel, by decide +kernel, by decide +kernel,
  kitAny_cons (b := true) (kit_ty (by decide +kernel)) (fun z => nomatch z) (fun _ => rfl), decide_eq_false fun z => nomatch z⟩
theorem leaf_i {K : PySem.W.Frag} (x : Int) : Leaf K (.int x) "int" false := ⟨fun H => .base (.int x), by decide +kernel, by decide +kernel, by decide +kernel, by decide +kernel,
  kitAny_cons (b := true) (kit_ty (by decide +kernel)) (fun z => nomatch z) (fun _ => rfl), decide_eq_false fun z => nomatch z⟩
theorem kind {K : PySem.W.Frag} {H : Hp} : ∀ {t : T} {x y : V}, At H t x → At H t y → (x = y ∧ (∃ tn bi, Leaf K x tn bi) ∧ ∃ c, (∀ Q : VK, ∀ H, rEq x x H Q ↔ Q (.bl c) H) ∧ c = true) ∨ ∃ ts, t = .t ts
  | .s z, x, y, h1, h2 => by
    rw [show x = V.str z from h1, show y = V.str z from h2]
    exact .inl ⟨rfl, ⟨_, _, leaf_s z⟩, true, fun Q H => ⟨fun h => by have := h.2; rw [decide_eq_true rfl] at this; exact this, fun h => ⟨rfl, by rw [decide_eq_true rfl]; exact h⟩⟩, rfl⟩
  | .b z, x, y, h1, h2 => by
    rw [show x = V.bl z from h1, show y = V.bl z from h2]
    exact .inl ⟨rfl, ⟨_, _, leaf_b z⟩, true, fun Q H => ⟨fun h => by have := h.2; rw [decide_eq_true rfl] at this; exact this, fun h => ⟨rfl, by rw [decide_eq_true rfl]; exact h⟩⟩, rfl⟩
  | .i z, x, y, h1, h2 => by
    rw [show x = V.int z from h1, show y = V.int z from h2]
    exact .inl ⟨rfl, ⟨_, _, leaf_i z⟩, true, fun Q H => ⟨fun h => by have := h.2; rw [decide_eq_true rfl] at this; exact this, fun h => ⟨rfl, by rw [decide_eq_true rfl]; exact h⟩⟩, rfl⟩
  | .t ts, _, _, _, _ => .inr ⟨ts, rfl⟩
section
variable {P : Program} {w : World} {K : PySem.W.Frag} {mg : PySem.Str → Option Value} {base : Heap} {f : Addr} {fd : FuncData}
theorem same_none : FnOk P w K mg base CX0 1 f fd ["_law_told", "_law_due"] (spSame 0) := by
  have no : ∀ vs H Q E, ¬ spSame 0 vs H Q E := fun vs H Q E ⟨_, _, _, _, z, _⟩ => z
  exact ⟨fun vs H Q E h => absurd h (no vs H Q E), fun A outer s H args us vs Q E _ _ _ _ h => absurd h (no vs H Q E)⟩
theorem ok_same (F : Fun K "_law_same" "_law_same" s_law_same f fd) (B : Blt mg) (n : Nat) (D_same : Def P w K mg base CX0 (n + 1) "_law_same" ["_law_told", "_law_due"] (spSame n)) : FnOk P w K mg base CX0 (n + 2) f fd ["_law_told", "_law_due"] (spSame (n + 1)) := by
  refine F.ok sc_law_same (fun vs H Q E h => ?_) (fun cdv A outer s H vs Q E hr h => ?_)
  · obtain ⟨t, x, y, rfl, _⟩ := h
    rfl
  obtain ⟨t, x, y, rfl, hok, hx, hy, k⟩ := h
  refine ⟨_, (pss_cons (ps_if (pt_val (pe_callB call_isi (by rfl) B.isinstance (by decide +kernel) (pa_cons (pv 1) (pa_cons (pe_bltn (v := .ty "dict") (by rfl) B.dict (by decide +kernel) rfl) pa_nil)))) (pss_cons ps_never (pss_one ps_never)) pss_nil)
    (pss_cons (ps_if (pt_val (pe_callB call_isiT (by rfl) B.isinstance (by decide +kernel) (pa_cons (pv 1) (pa_cons (pe_tup (pa_cons (pe_bltn (v := .ty "list") (by rfl) B.list (by decide +kernel) rfl) (pa_cons (pe_bltn (v := .ty "tuple") (by rfl) B.tuple (by decide +kernel) rfl) pa_nil))) pa_nil)))) (pss_cons (ps_if (PW.pt (pw_or (pt_cmpR op_ne (pe_callB call_isi (by rfl) B.isinstance (by decide +kernel) (pa_cons (pv 0) (pa_cons (pe_bltn (v := .ty "list") (by rfl) B.list (by decide +kernel) rfl) pa_nil))) (pe_callB call_isi (by rfl) B.isinstance (by decide +kernel) (pa_cons (pv 1) (pa_cons (pe_bltn (v := .ty "list") (by rfl) B.list (by decide +kernel) rfl) pa_nil))) (nomark _)) (pw_or1 (pt_cmpR op_ne (pe_callB call_isi (by rfl) B.isinstance (by decide +kernel) (pa_cons (pv 0) (pa_cons (pe_bltn (v := .ty "tuple") (by rfl) B.tuple (by decide +kernel) rfl) pa_nil))) (pe_callB call_isi (by rfl) B.isinstance (by decide +kernel) (pa_cons (pv 1) (pa_cons (pe_bltn (v := .ty "tuple") (by rfl) B.tuple (by decide +kernel) rfl) pa_nil))) (nomark _))))) (pss_one (ps_ret pe_bl)) pss_nil)
    (pss_one (ps_ret (pe_and (pe_cmpR op_eq (pe_callB cr_len (by rfl) B.len (by decide +kernel) (pa_cons (pv 0) pa_nil)) (pe_callB cr_len (by rfl) B.len (by decide +kernel) (pa_cons (pv 1) pa_nil)) (nomark _)) (pe_one (pe_cmpR op_eq (pe_callB cr_len (by rfl) B.len (by decide +kernel) (pa_cons (pe_lc (own := [("_law_k", 3)]) (g := (gName 3)) rfl sc_law_same.nd (pi_range1 (by rfl) B.range (pa_cons (pe_callB cr_len (by rfl) B.len (by decide +kernel) (pa_cons (pv 1) pa_nil)) pa_nil)) (blkOk_by (own := [("_law_k", 3)]) (N := n_law_same) (sc := defScope s_law_same) (by decide +kernel)) (fun _ _ _ _ _ => (pg_name (i := 3) sc_law_same.nd rfl (Or.inl rfl))) (fun _ _ _ _ _ => (pts_one (pt_not (pt_val (pe_callD D_same (hr.mono (by omega)) (by rfl) pass0 (pa_cons (pe_ix ixT0 (pv 0) (pv 3) (fun _ _ => rfl)) (pa_cons (pe_ix ixT0 (pv 1) (pv 3) (fun _ _ => rfl)) pa_nil))))))) (fun _ _ _ _ _ => (pv 3))) pa_nil)) pe_int (nomark _))))))) pss_nil)
    (pss_cons (ps_if (pt_cmpR op_isN (pv 1) pe_non (nomark _)) (pss_one (ps_ret (pe_cmpR op_isN (pv 0) pe_non (nomark _)))) pss_nil)
    (pss_cons (ps_if (PW.pt (pw_or (pt_not (pt_val (pe_callB call_isiT (by rfl) B.isinstance (by decide +kernel) (pa_cons (pv 0) (pa_cons (pe_tup (pa_cons (pe_bltn (v := .ty "int") (by rfl) B.int (by decide +kernel) rfl) (pa_cons (pe_bltn (v := .ty "str") (by rfl) B.str (by decide +kernel) rfl) pa_nil))) pa_nil))))) (pw_or1 (pt_cmpR op_ne (pe_callB call_isi (by rfl) B.isinstance (by decide +kernel) (pa_cons (pv 0) (pa_cons (pe_bltn (v := .ty "bool") (by rfl) B.bool (by decide +kernel) rfl) pa_nil))) (pe_callB call_isi (by rfl) B.isinstance (by decide +kernel) (pa_cons (pv 1) (pa_cons (pe_bltn (v := .ty "bool") (by rfl) B.bool (by decide +kernel) rfl) pa_nil))) (nomark _))))) (pss_one (ps_ret pe_bl)) pss_nil)
    (pss_one (ps_ret (pe_cmpR op_eq (pv 0) (pv 1) (nomark _)))))))), ?_⟩
  rcases kind (K := K) hx hy with ⟨rfl, ⟨tn, bi, L⟩, c, hc, rfl⟩ | ⟨ts, rfl⟩
  · refine ⟨_, rfl, x, .ty "dict", .type tn, .type "dict", false, rfl, .ty _, L.ty _, kit_ty L.d, _, rfl, ifF rfl ?_⟩
    refine ⟨_, rfl, two_line, fun p hp => ⟨x, p, [.ty "list", .ty "tuple"], .type tn, [.type "list", .type "tuple"], false, rfl, upd_same, .cons (.ty _) (.cons (.ty _) .nil), L.ty _, kitAny_cons (b := false) (kit_ty L.l) (fun _ => kitAny_cons (b := false) (kit_ty L.t) (fun _ => kitAny_nil) (fun z => nomatch z)) (fun z => nomatch z), _, rfl, ifF rfl ?_⟩⟩
    have s1 := same_new hp (HO.tup [.ty "list", .ty "tuple"])
    generalize upd H p (.tup [.ty "list", .ty "tuple"]) = H1 at s1 ⊢
    refine ⟨_, rfl, rfl, _, rfl, ifF L.n ?_⟩
    refine ⟨_, rfl, two_line, fun p2 hp2 => ⟨x, p2, [.ty "int", .ty "str"], .type tn, [.type "int", .type "str"], true, rfl, upd_same, .cons (.ty _) (.cons (.ty _) .nil), L.ty _, L.is, _, rfl, ifF rfl ?_⟩⟩
    have s2 := s1.trans (same_new hp2 (HO.tup [.ty "int", .ty "str"]))
    generalize upd H1 p2 (.tup [.ty "int", .ty "str"]) = H2 at s2 ⊢
    refine ⟨_, rfl, x, .ty "bool", .type tn, .type "bool", bi, rfl, .ty _, L.ty _, kit_ty L.b, _, rfl, x, .ty "bool", .type tn, .type "bool", bi, rfl, .ty _, L.ty _, kit_ty L.b, rfl, _, rfl, ifF (by rw [decide_eq_true rfl]; rfl) ?_⟩
    exact ⟨_, rfl, _, rfl, (hc _ _).mpr (k _ s2)⟩
  obtain ⟨a1, vs1, rfl, h1, hv1⟩ := hx
  obtain ⟨a2, vs2, rfl, h2, hv2⟩ := hy
  have len1 := hv1.len
  have len2 := hv2.len
  have hts : ts.length ≤ 1000 := hok.1
  refine ⟨_, rfl, .ref a2, .ty "dict", .type "tuple", .type "dict", false, rfl, .ty _, .base (.tup h2), kit_ty (by decide +kernel), _, rfl, ifF rfl ?_⟩
  refine ⟨_, rfl, two_line, fun p hp => ⟨.ref a2, p, [.ty "list", .ty "tuple"], .type "tuple", [.type "list", .type "tuple"], true, rfl, upd_same, .cons (.ty _) (.cons (.ty _) .nil), .base (.tup (same_new hp _ _ _ h2)), kitAny_cons (b := false) (kit_ty (by decide +kernel)) (fun _ => kitAny_cons (b := true) (kit_ty (by decide +kernel)) (fun z => nomatch z) (fun _ => rfl)) (fun z => nomatch z), _, rfl, ifT rfl ?_⟩⟩
  have s1 := same_new hp (HO.tup [.ty "list", .ty "tuple"])
  generalize upd H p (.tup [.ty "list", .ty "tuple"]) = H1 at s1 ⊢
  have g1 := s1 _ _ h1
  have g2 := s1 _ _ h2
  have w1 := hv1.mono (.of s1)
  have w2 := hv2.mono (.of s1)
  refine ⟨_, rfl, .ref a1, .ty "list", .type "tuple", .type "list", false, rfl, .ty _, .base (.tup g1), kit_ty (by decide +kernel), _, rfl, .ref a2, .ty "list", .type "tuple", .type "list", false, rfl, .ty _, .base (.tup g2), kit_ty (by decide +kernel), rfl, _, rfl, ifF rfl ?_⟩
  refine ⟨_, rfl, .ref a1, .ty "tuple", .type "tuple", .type "tuple", true, rfl, .ty _, .base (.tup g1), kit_ty (by decide +kernel), _, rfl, .ref a2, .ty "tuple", .type "tuple", .type "tuple", true, rfl, .ty _, .base (.tup g2), kit_ty (by decide +kernel), rfl, _, rfl, ifF rfl ?_⟩
  refine ⟨_, rfl, a1, _, rfl, .inr g1, _, rfl, a2, _, rfl, .inr g2, rfl, _, rfl, ifT (decide_eq_true (by rw [len1, len2])) ?_⟩
  refine ⟨_, rfl, a2, _, rfl, .inr g2, _, rfl, by omega, by omega, fun D hD => lc_range (fun i H' => Same H1 H' ∧ H' D = some (.lst [])) ⟨same_new hD _, upd_same⟩ (fun i H' hi ⟨s', hD'⟩ => ⟨rfl, ?_⟩) fun H' ⟨s', hD'⟩ => ?_⟩
  · have hi' : i < ts.length := by omega
    have ei : (0 : Int) + (i : Int) = ((i : Nat) : Int) := by omega
    obtain ⟨v1, q1, at1'⟩ := w1.get' (i := i) (List.getElem?_eq_getElem hi')
    obtain ⟨v2, q2, at2'⟩ := w2.get' (i := i) (List.getElem?_eq_getElem hi')
    refine ⟨_, rfl, _, rfl, a1, _, _, v1, rfl, rfl, s' _ _ g1, by rw [ei]; exact atI_nat q1, _, rfl, _, rfl, a2, _, _, v2, rfl, rfl, s' _ _ g2, by rw [ei]; exact atI_nat q2, ?_⟩
    exact ⟨ts[i], v1, v2, rfl, hok.2 _ (List.getElem_mem _), at1'.mono (.of s'), at2'.mono (.of s'), fun H3 s3 => ⟨_, rfl, ifF rfl ⟨s'.trans s3, s3 _ _ hD'⟩⟩⟩
  · refine ⟨D, [], rfl, .inl hD', rfl, ?_⟩
    exact k _ (s1.trans s')
end
end K49
namespace K49
open PySem PySem.Spec PyProof.Rows L2
abbrev s_learn : Stmt := top 17
abbrev n_learn : List PySem.Str := ["known", "fact", "mentioned", "committed", "outcome"]
theorem sc_learn : FnScope n_learn ["known", "fact"] (defScope s_learn) := ⟨rfl, rfl, rfl, by decide +kernel, rfl, by decide +kernel, by decide +kernel⟩
section
variable {P : Program} {w : World} {K : PySem.W.Frag} {mg : PySem.Str → Option Value} {base : Heap} {f : Addr} {fd : FuncData}
theorem pos_len {k : Kw} {f : Fs} (h : k.und.length + (freshN leS k (once [] (nm f))).length ≤ 6) : (outsOf leS k f).length ≤ 64 ∧ ∀ o ∈ outsOf leS k f, o.length ≤ 6 := by
  have e : (srt leS (k.und ++ freshN leS k (once [] (nm f)))).length ≤ 6 := by rw [srt_length, List.length_append]; exact h
  constructor
  · have h1 := List.length_filter_le (fun o => ev f fun x => decide (x ∈ comm k ++ o)) (mention leS k (once [] (nm f))).pos
    have h2 := List.length_filter_le (fun o => decide (restr k.und o ∈ k.pos)) (allO (srt leS (k.und ++ freshN leS k (once [] (nm f)))))
    rw [allO_length] at h2
    have := pow6 e
    exact Nat.le_trans h1 (Nat.le_trans h2 this)
  · intro o ho
    have h1 := (List.mem_filter.mp (List.mem_filter.mp ho).1).1
    exact Nat.le_trans (mem_allO.mp h1).length_le e
theorem ok_learn {C : Addr} (F : Fun K "learn" "learn" s_learn f fd) (B : Blt mg) (T : Contra K mg C) (Dmention : Def P w K mg base CX0 2 "mention" ["known", "names"] spMention) (Dnames_of : Def P w K mg base CX0 7 "names_of" ["fact"] spNames)
    (Dcommitted_names : Def P w K mg base CX0 1 "committed_names" ["decided"] spComm) (Dholds : Def P w K mg base CX0 5 "holds" ["fact", "committed"] (spHolds 4)) (Dkeep : Def P w K mg base (L2.CX P w) 2 "keep" ["known", "outcomes"] (spKeep C)) :
    FnOk P w K mg base (L2.CX P w) 8 f fd ["known", "fact"] (spLearn C) := by
  refine F.okX sc_learn (fun vs H Q E h => ?_) (fun cdv A outer s H vs Q E hr h => ?_)
  · obtain ⟨k, f, v, u, rfl, _⟩ := h
    rfl
  obtain ⟨k, f, v, u, rfl, hk, hf, hok, hd40, hp100, hn100, h6, kno, kk⟩ := h
  refine ⟨_, (pss_cons (ps_set (i := 2) sc_learn.nd rfl (Or.inl rfl) (pe_callD Dmention (hr.mono (by omega)) (by rfl) pass0 (pa_cons (pv 0) (pa_cons (pe_callD Dnames_of (hr.mono (by omega)) (by rfl) pass0 (pa_cons (pv 1) pa_nil)) pa_nil))))
    (pss_cons (ps_set (i := 3) sc_learn.nd rfl (Or.inr rfl) (pe_callD Dcommitted_names (hr.mono (by omega)) (by rfl) pass0 (pa_cons (pe_ix ixT0 (pv 0) pe_int (fun _ _ => rfl)) pa_nil)))
    (pss_one (ps_ret (pe_callD (E := E) Dkeep (hr.mono (by omega)) (by rfl) (passes_call (takes_of rfl rfl rfl rfl) (fun _ _ _ _ h => h)) (pa_cons (pv 2) (pa_cons (pe_callTy cr_tuple (by rfl) B.tuple (by decide +kernel) (pa_cons (pe_lc (own := [("outcome", 4)]) (g := (gName 4)) rfl sc_learn.nd (pi_tup (pe_ix ixT0 (pv 2) pe_int (fun _ _ => rfl))) (blkOk_by (own := [("outcome", 4)]) (N := n_learn) (sc := defScope s_learn) (by decide +kernel)) (fun _ _ _ _ _ => (pg_name (i := 4) sc_learn.nd rfl (Or.inl rfl))) (fun _ _ _ _ _ => (pts_one (pt_val (pe_callD Dholds (hr.mono (by omega)) (by rfl) pass0 (pa_cons (pv 1) (pa_cons (pe_op catA0 (pv 3) (pv 4)) pa_nil)))))) (fun _ _ _ _ _ => (pv 4))) pa_nil)) pa_nil))))))), ?_⟩
  -- mentioned
  refine ⟨_, rfl, _, rfl, f, u, rfl, hok, hf, fun nu H1 s1 hnu => ?_⟩
  have dn : (once [] (nm f)).Nodup := once_nodup List.Pairwise.nil
  refine ⟨k, once [] (nm f), v, nu, rfl, hk.mono (.of s1), hnu, dn, hn100, by omega, hp100, h6, fun mv H2 s2 hm => ?_⟩
  have s2' := s1.trans s2
  obtain ⟨a, d, un, p, dv, pvs, rfl, ha, hd, hdv, hun, hp, hpv⟩ := at_knT hk
  obtain ⟨ma, md, mun, mp, mdv, mpv, rfl, hma, hmd, hmdv, hmun, hmp, hmpv⟩ := at_knT hm
  -- committed
  refine ⟨_, rfl, a, _, 0, _, rfl, rfl, s2' _ _ ha, at0, k.dec, _, rfl, ⟨d, dv, rfl, s2' _ _ hd, hdv.mono (.of s2')⟩, by omega, fun cu H3 s3 hcu => ?_⟩
  obtain ⟨ca, rfl, hca⟩ := at_tS.mp hcu
  have s3' := s2'.trans s3
  have e6 : (srt leS (k.und ++ freshN leS k (once [] (nm f)))).length ≤ 6 := by rw [srt_length, List.length_append]; exact h6
  have hposl : (mention leS k (once [] (nm f))).pos.length ≤ 64 := by
    have h2 := List.length_filter_le (fun o => decide (restr k.und o ∈ k.pos)) (allO (srt leS (k.und ++ freshN leS k (once [] (nm f)))))
    rw [allO_length] at h2
    exact Nat.le_trans h2 (pow6 e6)
  -- the outcomes that are kept
  refine ⟨_, rfl, _, rfl, ma, _, 2, _, rfl, rfl, s3 _ _ hma, at2, mp, rfl, ⟨_, SqT.of (s3 _ _ hmp)⟩, fun D hD => lcT (cs := (mention leS k (once [] (nm f))).pos) tS (fmIf (fun o => ev f fun x => decide (x ∈ comm k ++ o)) tS) (s3 _ _ hmp) (hmpv.mono (.of s3)) (by omega) hD (fun o ho => ?_) fun H4 zs s4 hzs hzat => ?_⟩
  · intro v H' hv s' Qy Qn ky kn
    obtain ⟨oa, rfl, hoa⟩ := at_tS.mp hv
    have h1 := (List.mem_filter.mp ho).1
    have hol : o.length ≤ 6 := Nat.le_trans (mem_allO.mp h1).length_le e6
    have hcl : (k.dec.filter (·.2)).length ≤ k.dec.length := List.length_filter_le _ _
    refine ⟨rfl, ⟨_, rfl, _, rfl, _, rfl, ca, oa, _, _, rfl, rfl, s' _ _ hca, hoa, ?_, fun r H6 s6 hr6 => ?_⟩⟩
    · rw [List.length_map, List.length_map, List.length_map]
      exact Nat.le_of_lt (small_line (by omega))
    · refine ⟨f, comm k ++ o, u, V.ref r, rfl, hok, hf.mono (.of (s3'.trans (s'.trans s6))), at_tS.mpr ⟨r, rfl, by rw [List.map_append]; exact hr6⟩, fun H7 s7 => ⟨_, rfl, ?_⟩⟩
      refine ite2 (fun c => ?_) (fun c => ?_)
      · exact ⟨_, rfl, ky (tS o) _ _ (fm_yes c) (s6.trans s7) (hv.mono (.of (s6.trans s7)))⟩
      · exact kn _ (fm_no (Bool.eq_false_iff.mpr c)) (s6.trans s7)
  rw [fm_if] at hzat
  refine ⟨D, zs, rfl, hzs, fun t ht => ?_⟩
  have st := same_new ht (HO.tup zs)
  have s5 := s3'.trans (s4.trans st)
  obtain ⟨hol, hoo⟩ := pos_len h6
  refine ⟨mention leS k (once [] (nm f)), outsOf leS k f, V.ref ma, V.ref t, rfl, hm.mono (.of (s3.trans (s4.trans st))), ⟨t, zs, rfl, upd_same, hzat.mono (.of st)⟩, by omega, ?_, fun o ho => by have := hoo o ho; omega, fun h0 H' s' => ?_, fun h0 r H' s' hr' => ?_⟩
  · show k.dec.length + (srt leS (k.und ++ freshN leS k (once [] (nm f)))).length ≤ 100
    omega
  · refine kno ?_ H' (s5.trans s')
    unfold learn
    rw [if_pos h0]
  · refine kk _ ?_ r H' (s5.trans s') hr'
    unfold learn
    rw [if_neg h0]
end
end K49
namespace K49
open PySem PySem.Spec PyProof.Rows L2
abbrev s_law_learned : Stmt := top 33
abbrev n_law_learned : List PySem.Str := ["_law_known_here", "_law_facts", "_law_fact_here"]
theorem sc_law_learned : FnScope n_law_learned ["_law_known_here", "_law_facts"] (defScope s_law_learned) := ⟨rfl, rfl, rfl, by decide +kernel, rfl, by decide +kernel, by decide +kernel⟩
theorem rep_bounds {k : Kw} {N U : List PySem.Str} {P : (PySem.Str → Bool) → Prop} {f : Fs} (h : Rep leS k N P) (hN : ∀ x ∈ N, x ∈ U) (hU : U.length ≤ 6) (hf : ∀ x ∈ nm f, x ∈ U) :
    k.dec.length ≤ 6 ∧ k.pos.length ≤ 64 ∧ (once [] (nm f)).length ≤ 6 ∧ k.und.length + (freshN leS k (once [] (nm f))).length ≤ 6 := by
  obtain ⟨d, W, hW, rfl, e⟩ := h
  have dN : N.length ≤ 6 := Nat.le_trans (List.Nodup.length_le_of_subset d hN) hU
  have dS : (srt leS N).Nodup := (srt_perm N).nodup_iff.mpr d
  have lS : (srt leS N).length ≤ 6 := by rw [srt_length]; exact dN
  have don : (once [] (nm f)).Nodup := once_nodup List.Pairwise.nil
  have sub : ∀ x ∈ once [] (nm f), x ∈ U := fun x hx => hf x ((mem_once.mp hx).resolve_left List.not_mem_nil)
  refine ⟨?_, ?_, Nat.le_trans (List.Nodup.length_le_of_subset don sub) hU, ?_⟩
  · show (((srt leS N).filter (fixd W)).map (mark W)).length ≤ 6
    rw [List.length_map]
    exact Nat.le_trans (List.length_filter_le _ _) lS
  · have h1 : ((srt leS N).filter (vary W)).length ≤ 6 := Nat.le_trans (List.length_filter_le _ _) lS
    have h2 := List.length_filter_le (fun r => decide (r ∈ W.map (seen ((srt leS N).filter (vary W))))) (allO ((srt leS N).filter (vary W)))
    rw [allO_length] at h2
    exact Nat.le_trans h2 (pow6 h1)
  · rw [← List.length_append]
    have dF : (freshN leS (kn leS N W) (once [] (nm f))).Nodup := (srt_perm _).nodup_iff.mpr (don.filter _)
    have mF : ∀ x ∈ freshN leS (kn leS N W) (once [] (nm f)), x ∈ once [] (nm f) ∧ x ∉ N := fun x hx => by
      obtain ⟨h1, h2⟩ := List.mem_filter.mp (mem_srt.mp hx)
      refine ⟨h1, fun z => ?_⟩
      have h3 := kn_old (le := leS) (W := W) |>.mpr z
      rw [decide_eq_true h3] at h2
      cases h2
    refine Nat.le_trans (List.Nodup.length_le_of_subset (List.nodup_append.mpr ⟨dS.filter _, dF, fun a ha b hb e => ?_⟩) fun x hx => ?_) hU
    · have h1 : a ∈ N := (kn_und.mp ha).1
      exact (mF b hb).2 (e ▸ h1)
    · rcases List.mem_append.mp hx with h | h
      · exact hN x (kn_und.mp h).1
      · exact sub x (mF x h).1
def outT : Option Kw → T
  | none => .t [.s "contradiction"]
  | some k => .t [.s "told", knT k]
def spLearned : Sp := fun vs H Q _ => ∃ (k : Kw) (N U : List PySem.Str) (P : (PySem.Str → Bool) → Prop) (fs : List Fs) (v : V) (lp : Addr) (fv : List V), vs = [v, V.ref lp] ∧ At H (knT k) v ∧ Rep leS k N P ∧ (∀ x ∈ N, x ∈ U) ∧ U.length ≤ 6 ∧
  H lp = some (.lst fv) ∧ Ats H (fs.map tF) fv ∧ (∀ f ∈ fs, FOk 4 f ∧ ∀ x ∈ nm f, x ∈ U) ∧ ∀ (u : V) H', Same H H' → At H' (outT (learnAll leS k fs)) u → Q u H'
section
variable {P : Program} {w : World} {K : PySem.W.Frag} {mg : PySem.Str → Option Value} {base : Heap} {f : Addr} {fd : FuncData}
theorem ok_learned {C : Addr} (F : Fun K "_law_learned" "_law_learned" s_law_learned f fd) (B : Blt mg) (TC : Contra K mg C) (Dlearn : Def P w K mg base (L2.CX P w) 8 "learn" ["known", "fact"] (spLearn C)) :
    FnOk P w K mg base CX0 9 f fd ["_law_known_here", "_law_facts"] spLearned := by
  refine F.ok sc_law_learned (fun vs H Q E h => ?_) (fun cdv A outer s H vs Q E hr h => ?_)
  · obtain ⟨k, N, U, P, fs, v, lp, fv, rfl, _⟩ := h
    rfl
  obtain ⟨k, N, U, P, fs, v, lp, fv, rfl, hk, rep, hN, hU, hlp, hfv, hfs, kk⟩ := h
  have flen : fv.length = fs.length := by rw [hfv.len, List.length_map]
  refine ⟨_, (pss_cons (ps_try_only (tb := fun W => tFor (iList K (tVar 1)) (gName 2) (tAsg (tCallDS (spLearn C) (WE W) (tCons (tVar 0) (tCons (tVar 2) tNil))) (gName 0))) (ts := fun _ _ _ => tRet (tTup (tCons (tC (.str "contradiction")) tNil))) (c := .ref C) (Wout := fun _ _ _ _ => False) rfl rfl ⟨rfl, by decide, .inl TC.g⟩ takes0
      (fun W pn xe tk po => (pss_one (ps_for po rfl (pi_list (pv 1)) (pg_name (i := 2) sc_law_learned.nd rfl (Or.inl rfl)) (pss_one (ps_set (i := 0) sc_law_learned.nd rfl (Or.inl rfl) (pe_callDS Dlearn (hr.mono (by omega)) (by rfl) (fun σ => passAt tk σ) (pa_cons (pv 0) (pa_cons (pv 2) pa_nil))))))))
      (fun a oe cls d pn hz hd => pss_one (ps_ret (pe_tup (pa_cons pe_str pa_nil)))))
    (pss_one (ps_ret (pe_tup (pa_cons pe_str (pa_cons (pv 0) pa_nil)))))), ?_⟩
  refine ⟨_, rfl, lp, rfl, ⟨_, SqL.of hlp⟩, for_list (xs := fv) (fun i σ H' => ∃ (ki : Kw) (Ni : List PySem.Str) (Pi : (PySem.Str → Bool) → Prop) (vi : V) (y : Option V), σ = [some vi, some (V.ref lp), y] ∧ Same H H' ∧ At H' (knT ki) vi ∧ Rep leS ki Ni Pi ∧ (∀ x ∈ Ni, x ∈ U) ∧ learnAll leS k fs = learnAll leS ki (fs.drop i))
    ⟨k, N, P, v, none, rfl, Same.refl _, hk, rep, hN, by rw [List.drop_zero]⟩ (fun i σ H' _ ⟨_, _, _, _, _, _, s', _⟩ => SqL.of (s' _ _ hlp)) ?_ ?_⟩
  · rintro i z σ H' hz ⟨ki, Ni, Pi, vi, y, rfl, s', hki, ri, hNi, ei⟩
    obtain ⟨g, hg, hat⟩ := hfv.getE hz
    have hgm := List.mem_of_getElem? hg
    obtain ⟨hok, hnm⟩ := hfs g hgm
    obtain ⟨b1, b2, b3, b4⟩ := rep_bounds ri hNi hU hnm
    have hi : i < fs.length := (List.getElem?_eq_some_iff.mp hg).1
    have ed : fs.drop i = g :: fs.drop (i + 1) := by
      rw [List.drop_eq_getElem_cons hi]
      congr 1
      exact (List.getElem?_eq_some_iff.mp hg).2
    rw [ed] at ei
    refine ⟨_, rfl, _, rfl, ki, g, vi, z, rfl, hki, hat.mono (.of s'), hok, by omega, by omega, by omega, b4, fun hnone H2 s2 => ?_, fun k' hsome r H2 s2 hr2 => ?_⟩
    · refine ⟨true, TC.e, fun _ a ha => ⟨(by show 1 ≤ sizeLine; decide), fun t ht => ?_⟩, fun z => nomatch z⟩
      refine kk _ _ (s'.trans (s2.trans (same_new ht _))) ?_
      rw [ei, learnAll, hnone]
      exact at_tup (.cons rfl .nil) upd_same
    · rcases learn_rep leS_ord ri g with ⟨k2, N2, e2, r2, m2⟩ | ⟨e2, _⟩
      · rw [hsome] at e2
        obtain rfl : k' = k2 := Option.some.inj e2
        refine ⟨k', N2, _, r, _, rfl, s'.trans s2, hr2, r2, fun x hx => ?_, ?_⟩
        · rcases (m2 x).mp hx with h | h
          · exact hNi x h
          · exact hnm x h
        · rw [ei]
          conv => lhs; unfold learnAll
          rw [hsome]
      · rw [hsome] at e2
        cases e2
  · rintro σ H2 ⟨ki, Ni, Pi, vi, y, rfl, s2, hki, ri, hNi, ei⟩
    rw [flen, List.drop_length] at ei
    refine ⟨_, rfl, two_line, fun t ht => ?_⟩
    have g1 := same_new ht (HO.tup [V.str "told", vi])
    refine kk _ _ (s2.trans g1) ?_
    rw [ei]
    exact at_tup (.cons rfl (.cons (hki.mono (.of g1)) .nil)) upd_same
end
end K49
namespace K49
open PySem PySem.Spec PyProof.Rows L2
abbrev s_law : Stmt := top 34
abbrev n_law : List PySem.Str := ["_law_script", "_law_tape_here", "_law_names_here", "_law_old", "_law_worlds_here", "_law_known_here", "_law_facts", "_law_left", "_law_other", "_law_k", "_law_joined", "_law_fresh", "_law_fact_here", "_law_agreeing", "_law_row", "_law_due", "_law_name"]
theorem sc_law : FnScope n_law ["_law_script"] (defScope s_law) := ⟨rfl, rfl, rfl, by decide +kernel, rfl, by decide +kernel, by decide +kernel⟩
/-! ### plain facts -/
theorem tok_mono : ∀ {n : Nat} {t : T}, TOk n t → TOk (n + 1) t
  | 0, _, h => h.elim
  | _ + 1, .s _, _ => True.intro
  | _ + 1, .b _, _ => True.intro
  | _ + 1, .i _, _ => True.intro
  | n + 1, .t ts, h => ⟨h.1, fun t ht => tok_mono (n := n) (h.2 t ht)⟩
theorem tok_tS {o : List PySem.Str} (h : o.length ≤ 1000) : TOk 2 (tS o) := ⟨by rw [List.length_map]; exact h, fun t ht => by
  obtain ⟨x, _, rfl⟩ := List.mem_map.mp ht
  exact True.intro⟩
theorem tok_kn {N : List PySem.Str} {W : List (List PySem.Str)} (h : N.length ≤ 6) : TOk 4 (knT (kn leS N W)) := by
  have lS : (srt leS N).length ≤ 6 := by rw [srt_length]; exact h
  have lV : ((srt leS N).filter (vary W)).length ≤ 6 := Nat.le_trans (List.length_filter_le _ _) lS
  refine ⟨(by show 3 ≤ 1000; decide), fun t ht => ?_⟩
  simp only [List.mem_cons, List.not_mem_nil, or_false] at ht
  rcases ht with rfl | rfl | rfl
  · refine ⟨?_, fun t ht => ?_⟩
    · rw [List.length_map]
      show (((srt leS N).filter (fixd W)).map (mark W)).length ≤ 1000
      rw [List.length_map]
      have := List.length_filter_le (fixd W) (srt leS N)
      omega
    · obtain ⟨p, _, rfl⟩ := List.mem_map.mp ht
      refine ⟨(by show 2 ≤ 1000; decide), fun t ht => ?_⟩
      simp only [List.mem_cons, List.not_mem_nil, or_false] at ht
      rcases ht with rfl | rfl
      · exact True.intro
      · exact True.intro
  · exact tok_mono (tok_tS (by show ((srt leS N).filter (vary W)).length ≤ 1000; omega))
  · refine ⟨?_, fun t ht => ?_⟩
    · rw [List.length_map]
      show ((allO ((srt leS N).filter (vary W))).filter _).length ≤ 1000
      refine Nat.le_trans (List.length_filter_le _ _) ?_
      rw [allO_length]
      exact Nat.le_trans (pow6 lV) (by decide)
    · obtain ⟨o, ho, rfl⟩ := List.mem_map.mp ht
      have h1 := (mem_allO.mp (List.mem_filter.mp ho).1).length_le
      exact tok_tS (by omega)
theorem tok_due {old : List PySem.Str} {W : List (List PySem.Str)} {fs : List Fs} (h : (old ++ freshOf old fs).length ≤ 6) : TOk 5 (outT (due leS old W fs)) := by
  unfold due
  by_cases c : agreeing W (freshOf old fs) fs = []
  · rw [if_pos c]
    refine ⟨(by show 1 ≤ 1000; decide), fun t ht => ?_⟩
    rw [List.mem_singleton.mp ht]
    exact True.intro
  · rw [if_neg c]
    refine ⟨(by show 2 ≤ 1000; decide), fun t ht => ?_⟩
    simp only [List.mem_cons, List.not_mem_nil, or_false] at ht
    rcases ht with rfl | rfl
    · exact True.intro
    · exact tok_kn h
theorem extend_len {W : List (List PySem.Str)} {n : Nat} (hW : W.length ≤ 2 ^ n) (fresh : List PySem.Str) : (extend W fresh).length ≤ 2 ^ (n + fresh.length) := by
  have h := flat_len (fun r => W.map (· ++ r)) (2 ^ n) (allO fresh) fun r _ => by rw [List.length_map]; exact hW
  rw [allO_length] at h
  rw [Nat.pow_add, Nat.mul_comm]
  exact h
theorem ev_an (fs : List Fs) (c : PySem.Str → Bool) : ev (K49.F.an fs) c = true ↔ ∀ f ∈ fs, ev f c = true := by
  show evA fs c = true ↔ _
  rw [evA_all, List.all_eq_true]
theorem perm_erase {α : Type} : ∀ {l : List α} {k : Nat} {x : α}, l[k]? = some x → (x :: l.eraseIdx k).Perm l
  | [], k, x, h => by simp at h
  | y :: r, 0, x, h => by
    obtain rfl : y = x := Option.some.inj h
    exact List.Perm.refl _
  | y :: r, k + 1, x, h => by
    have ih := perm_erase (l := r) (k := k) h
    exact (List.Perm.swap y x _).trans (ih.cons y)
theorem Ats.erase {H : Hp} : ∀ {ts : List T} {vs : List V} (k : Nat), Ats H ts vs → Ats H (ts.eraseIdx k) (vs.eraseIdx k)
  | [], _, k, h => by
    rw [show _ = [] from h]
    exact .nil
  | t :: r, _, 0, h => by
    obtain ⟨v, us, rfl, h1, h2⟩ := h
    exact h2
  | t :: r, _, k + 1, h => by
    obtain ⟨v, us, rfl, h1, h2⟩ := h
    exact .cons h1 (Ats.erase k h2)
theorem map_erase {α β : Type} (g : α → β) : ∀ (l : List α) (k : Nat), (l.map g).eraseIdx k = (l.eraseIdx k).map g
  | [], _ => rfl
  | x :: r, 0 => rfl
  | x :: r, k + 1 => by
    show g x :: (r.map g).eraseIdx k = g x :: (r.eraseIdx k).map g
    rw [map_erase g r k]
/-- all stands but the objects at a, c, l, o -/
def Kb4 (a c l o : Addr) (H H' : Hp) : Prop := ∀ b u, b ≠ a → b ≠ c → b ≠ l → b ≠ o → H b = some u → H' b = some u
def spFactU : Sp := fun vs H Q E => spFact 1 vs H Q E ∨ spFact 2 vs H Q E ∨ spFact 3 vs H Q E
def spLaw (K : PySem.W.Frag) : Sp := fun vs H Q _ => ∃ (a : Addr) (ns : List Int), vs = [.ref a] ∧ SqL K H a (ns.map V.int) ∧ ns.length ≤ 63 ∧ ∀ H', Q (.bl true) H'
section
variable {P : Program} {w : World} {K : PySem.W.Frag} {mg : PySem.Str → Option Value} {base : Heap} {f : Addr} {fd : FuncData}
theorem fact_u {ps : List PySem.Str} (F1 : FnOk P w K mg base CX0 4 f fd ps (spFact 1)) (F2 : FnOk P w K mg base CX0 4 f fd ps (spFact 2)) (F3 : FnOk P w K mg base CX0 4 f fd ps (spFact 3)) : FnOk P w K mg base CX0 4 f fd ps spFactU :=
  ⟨fun vs H Q E h => h.elim (F1.len vs H Q E) fun h => h.elim (F2.len vs H Q E) (F3.len vs H Q E),
   fun A outer s H args us vs Q E hr he hb hv h => h.elim (F1.run A outer s H args us vs Q E hr he hb hv) fun h => h.elim (F2.run A outer s H args us vs Q E hr he hb hv) (F3.run A outer s H args us vs Q E hr he hb hv)⟩
/-- the defs that law calls -/
structure Defs (P : Program) (w : World) (K : PySem.W.Frag) (mg : PySem.Str → Option Value) (base : Heap) : Prop where
  tape : Def P w K mg base CX0 1 "_law_tape" ["_law_script"] (spTape K)
  draw : Def P w K mg base CX0 1 "_law_draw" ["_law_tape_here", "_law_many"] spDraw
  names : Def P w K mg base CX0 2 "_law_names" ["_law_tape_here", "_law_most"] spNameL
  worlds : Def P w K mg base CX0 3 "_law_worlds" ["_law_tape_here", "_law_names_here"] spWorlds
  known : Def P w K mg base CX0 2 "_law_known" ["_law_names_here", "_law_worlds_here"] spKnown
  fact : Def P w K mg base CX0 4 "_law_fact" ["_law_tape_here", "_law_names_here", "_law_depth"] spFactU
  listed : Def P w K mg base CX0 5 "_law_listed" ["_law_fact_here"] (spListL 4)
  once : Def P w K mg base CX0 1 "_law_once" ["_law_names_here"] spOnce
  extended : Def P w K mg base CX0 2 "_law_extended" ["_law_worlds_here", "_law_fresh"] spExt
  true : Def P w K mg base CX0 5 "_law_true" ["_law_fact_here", "_law_committed"] (spHolds 4)
  same : Def P w K mg base CX0 6 "_law_same" ["_law_told", "_law_due"] (spSame 5)
  learned : Def P w K mg base CX0 9 "_law_learned" ["_law_known_here", "_law_facts"] spLearned
theorem ok_law (F : Fun K "law" "law" s_law f fd) (B : Blt mg) (Z : Defs P w K mg base) : FnOk P w K mg base CX0 10 f fd ["_law_script"] (spLaw K) := by
  refine F.ok sc_law (fun vs H Q E h => ?_) (fun cdv A outer s H vs Q E hr h => ?_)
  · obtain ⟨p, ns, rfl, _⟩ := h
    rfl
  obtain ⟨sp, scr, rfl, hS, h63, fin⟩ := h
  obtain ⟨D_tape, D_draw, D_names, D_worlds, D_known, D_fact, D_listed, D_once, D_extended, D_true, D_same, D_learned⟩ := Z
  refine ⟨_, (pss_cons (ps_set (i := 1) sc_law.nd rfl (Or.inr rfl) (pe_callD D_tape (hr.mono (by omega)) (by rfl) pass0 (pa_cons (pv 0) pa_nil)))
    (pss_cons (ps_set (i := 2) sc_law.nd rfl (Or.inr rfl) (pe_callD D_names (hr.mono (by omega)) (by rfl) pass0 (pa_cons (pv 1) (pa_cons pe_int pa_nil))))
    (pss_cons (ps_set (i := 3) sc_law.nd rfl (Or.inr rfl) (pe_slice sl0L (pv 2) po_none (po_some (pe_callB (call_max2 rfl) (by rfl) B.max (by decide +kernel) (pa_cons (pe_op op_sub (pe_callB cr_len (by rfl) B.len (by decide +kernel) (pa_cons (pv 2) pa_nil)) (pe_callD D_draw (hr.mono (by omega)) (by rfl) pass0 (pa_cons (pv 1) (pa_cons pe_int pa_nil)))) (pa_cons pe_int pa_nil))))))
    (pss_cons (ps_if (pt_cmpR op_eq (pe_callD D_draw (hr.mono (by omega)) (by rfl) pass0 (pa_cons (pv 1) (pa_cons pe_int pa_nil))) pe_int (nomark _)) (pss_one (ps_set (i := 3) sc_law.nd rfl (Or.inr rfl) (pe_lst pa_nil))) pss_nil)
    (pss_cons (ps_set (i := 4) sc_law.nd rfl (Or.inl rfl) (pe_callD D_worlds (hr.mono (by omega)) (by rfl) pass0 (pa_cons (pv 1) (pa_cons (pv 3) pa_nil))))
    (pss_cons (ps_set (i := 5) sc_law.nd rfl (Or.inl rfl) (pe_callD D_known (hr.mono (by omega)) (by rfl) pass0 (pa_cons (pv 3) (pa_cons (pv 4) pa_nil))))
    (pss_cons (ps_setLc (i := 6) (own := [("_law_k", 9)]) (g := (gName 9)) rfl sc_law.nd rfl rfl (sw_true rfl rfl rfl (by decide +kernel)) (pi_range1 (by rfl) B.range (pa_cons (pe_op op_add pe_int (pe_callD D_draw (hr.mono (by omega)) (by rfl) pass0 (pa_cons (pv 1) (pa_cons pe_int pa_nil)))) pa_nil)) (blkOk_by (own := [("_law_k", 9)]) (N := n_law) (sc := defScope s_law) (by decide +kernel)) (fun _ _ _ _ _ => (pg_name (i := 9) sc_law.nd rfl (Or.inl rfl))) (fun _ _ _ _ _ => pts_nil) (fun _ _ _ _ _ => (pe_callD D_fact (hr.mono (by omega)) (by rfl) pass0 (pa_cons (pv 1) (pa_cons (pv 2) (pa_cons (pe_callD D_draw (hr.mono (by omega)) (by rfl) pass0 (pa_cons (pv 1) (pa_cons pe_int pa_nil))) pa_nil))))))
    (pss_cons (ps_set (i := 7) sc_law.nd rfl (Or.inl rfl) (pe_callTy cr_list (by rfl) B.list (by decide +kernel) (pa_cons (pv 6) pa_nil)))
    (pss_cons (ps_set (i := 8) sc_law.nd rfl (Or.inl rfl) (pe_lst pa_nil))
    (pss_cons (ps_for PassesOwn.never rfl (pi_range1 (by rfl) B.range (pa_cons (pe_callB cr_len (by rfl) B.len (by decide +kernel) (pa_cons (pv 6) pa_nil)) pa_nil)) (pg_name (i := 9) sc_law.nd rfl (Or.inl rfl)) (pss_one (ps_expr (pe_bm PySem.F.plainAttrs_list PySem.F.slot_list_append PySem.F.type_list_append mt_append (pv 8) (pa_cons (pe_bm PySem.F.plainAttrs_list PySem.F.slot_list_pop PySem.F.type_list_pop mt_popAt (pv 7) (pa_cons (pe_callD D_draw (hr.mono (by omega)) (by rfl) pass0 (pa_cons (pv 1) (pa_cons (pe_callB cr_len (by rfl) B.len (by decide +kernel) (pa_cons (pv 7) pa_nil)) pa_nil))) pa_nil)) pa_nil)))))
    (pss_cons (ps_set (i := 10) sc_law.nd rfl (Or.inl rfl) (pe_ix ixL0 (pv 6) pe_int (fun _ _ => rfl)))
    (pss_cons (ps_if (pt_cmpR op_gt (pe_callB cr_len (by rfl) B.len (by decide +kernel) (pa_cons (pv 6) pa_nil)) pe_int (nomark _)) (pss_one (ps_set (i := 10) sc_law.nd rfl (Or.inl rfl) (pe_tup (pa_cons pe_str (pa_cons (pe_callTy cr_tuple (by rfl) B.tuple (by decide +kernel) (pa_cons (pv 6) pa_nil)) pa_nil))))) pss_nil)
    (pss_cons (ps_set (i := 11) sc_law.nd rfl (Or.inl rfl) (pe_lst pa_nil))
    (pss_cons (ps_for PassesOwn.never rfl (pi_list (pv 6)) (pg_name (i := 12) sc_law.nd rfl (Or.inl rfl)) (pss_one (ps_set (i := 11) sc_law.nd rfl (Or.inl rfl) (pe_op op_cat (pv 11) (pe_lc (own := [("_law_name", 16)]) (g := (gName 16)) rfl sc_law.nd (pi_list (pe_callD D_listed (hr.mono (by omega)) (by rfl) pass0 (pa_cons (pv 12) pa_nil))) (blkOk_by (own := [("_law_name", 16)]) (N := n_law) (sc := defScope s_law) (by decide +kernel)) (fun _ _ _ _ _ => (pg_name (i := 16) sc_law.nd rfl (Or.inl rfl))) (fun _ _ _ _ _ => (pts_one (pt_cmpR notInS (pv 16) (pv 3) (by rfl)))) (fun _ _ _ _ _ => (pv 16)))))))
    (pss_cons (ps_set (i := 11) sc_law.nd rfl (Or.inl rfl) (pe_callD D_once (hr.mono (by omega)) (by rfl) pass0 (pa_cons (pv 11) pa_nil)))
    (pss_cons (ps_set (i := 13) sc_law.nd rfl (Or.inl rfl) (pe_lst pa_nil))
    (pss_cons (ps_for PassesOwn.never rfl (pi_list (pe_callD D_extended (hr.mono (by omega)) (by rfl) pass0 (pa_cons (pv 4) (pa_cons (pv 11) pa_nil)))) (pg_name (i := 14) sc_law.nd rfl (Or.inr rfl)) (pss_one (ps_if (pt_cmpR op_eq (pe_callB cr_len (by rfl) B.len (by decide +kernel) (pa_cons (pe_lc (own := [("_law_fact_here", 12)]) (g := (gName 12)) rfl sc_law.nd (pi_list (pv 6)) (blkOk_by (own := [("_law_fact_here", 12)]) (N := n_law) (sc := defScope s_law) (by decide +kernel)) (fun _ _ _ _ _ => (pg_name (i := 12) sc_law.nd rfl (Or.inl rfl))) (fun _ _ _ _ _ => (pts_one (pt_not (pt_val (pe_callD D_true (hr.mono (by omega)) (by rfl) pass0 (pa_cons (pv 12) (pa_cons (pv 14) pa_nil))))))) (fun _ _ _ _ _ => (pv 12))) pa_nil)) pe_int (nomark _)) (pss_one (ps_expr (pe_bm PySem.F.plainAttrs_list PySem.F.slot_list_append PySem.F.type_list_append mt_append (pv 13) (pa_cons (pv 14) pa_nil)))) pss_nil)))
    (pss_cons (ps_set (i := 15) sc_law.nd rfl (Or.inl rfl) (pe_tup (pa_cons pe_str pa_nil)))
    (pss_cons (ps_if (pt_lst (pv 13)) (pss_one (ps_set (i := 15) sc_law.nd rfl (Or.inl rfl) (pe_tup (pa_cons pe_str (pa_cons (pe_callD D_known (hr.mono (by omega)) (by rfl) pass0 (pa_cons (pe_op op_cat (pv 3) (pv 11)) (pa_cons (pv 13) pa_nil))) pa_nil))))) pss_nil)
    (pss_cons (ps_if (pt_not (pt_val (pe_callD D_same (hr.mono (by omega)) (by rfl) pass0 (pa_cons (pe_callD D_learned (hr.mono (by omega)) (by rfl) pass0 (pa_cons (pv 5) (pa_cons (pv 6) pa_nil))) (pa_cons (pv 15) pa_nil))))) (pss_one (ps_ret pe_bl)) pss_nil)
    (pss_one (ps_ret (pe_and (pe_callD D_same (hr.mono (by omega)) (by rfl) pass0 (pa_cons (pe_callD D_learned (hr.mono (by omega)) (by rfl) pass0 (pa_cons (pv 5) (pa_cons (pv 8) pa_nil))) (pa_cons (pv 15) pa_nil))) (pe_one (pe_callD D_same (hr.mono (by omega)) (by rfl) pass0 (pa_cons (pe_callD D_learned (hr.mono (by omega)) (by rfl) pass0 (pa_cons (pv 5) (pa_cons (pe_lst (pa_cons (pv 10) pa_nil)) pa_nil))) (pa_cons (pv 15) pa_nil))))))))))))))))))))))))))), ?_⟩
  refine ⟨_, rfl, sp, scr, rfl, hS, h63, fun a c H1 s1 t1 => ?_⟩
  refine ⟨_, rfl, a, c, 63, rfl, t1, by omega, fun q0 names H2 kb2 t2 hq0 n0a n0c nd hne l6 => ?_⟩
  refine ⟨_, rfl, _, rfl, q0, _, rfl, .inl hq0, _, rfl, a, c, 63 + 8, 7, rfl, t2, by omega, by decide, fun r H3 r0 r1 kb3 t3 => ⟨_, r, rfl, rfl, _, 0, rfl, ?_⟩⟩
  have hq3 := kb3 _ _ n0a n0c hq0
  generalize hnn : (if (0 : Int) > ((names.map V.str).length : Int) - r then (0 : Int) else ((names.map V.str).length : Int) - r) = nn
  have hnn0 : 0 ≤ nn := by rw [← hnn]; split <;> omega
  refine ⟨nn, rfl, q0, _, nn.toNat, rfl, rfl, by rw [Int.toNat_of_nonneg hnn0], hq3, fun p4 hp4 => ?_⟩
  obtain ⟨n4a, n4c⟩ := t3.free hp4
  have s4 := same_new hp4 (HO.lst ((names.map V.str).take nn.toNat))
  have e4 : (upd H3 p4 (.lst ((names.map V.str).take nn.toNat))) p4 = some (.lst ((names.take nn.toNat).map V.str)) := by rw [upd_same, List.map_take]
  generalize upd H3 p4 (.lst ((names.map V.str).take nn.toNat)) = H4 at s4 e4 ⊢
  have t4 := t3.mono s4 (Nat.le_refl _)
  have hq4 := s4 _ _ hq3
  dsimp only [gName]
  show tSeq ?A ?B ?cs ?s ?h
  have rest : ∀ (old : List PySem.Str) (op : Addr) (H6 : Hp), TapeAt H6 a c 100 → H6 q0 = some (.lst (names.map V.str)) → H6 op = some (.lst (old.map V.str)) → op ≠ a → op ≠ c → old.Nodup → (∀ x ∈ old, x ∈ names) →
      ?B ?cs [some (V.ref sp), some (V.ref a), some (V.ref q0), some (V.ref op), none, none, none, none, none, none, none, none, none, none, none, none, none] H6 := by
    intro old op H6 t6 hq6 hop6 noa noc ndo hon
    have old6 : old.length ≤ 6 := Nat.le_trans (List.Nodup.length_le_of_subset ndo hon) l6
    -- worlds
    refine ⟨_, rfl, _, rfl, a, c, op, 100, old, rfl, t6, by omega, hop6, old6, fun wq wv W H7 kb7 t7 hwq hwv nwa nwc hW hWs hWl => ?_⟩
    have hop7 := kb7 _ _ noa noc hop6
    have hq7 := kb7 _ _ n0a n0c hq6
    have hW64 : W.length ≤ 64 := Nat.le_trans hWl (pow6 old6)
    have hWo : ∀ o ∈ W, ∀ x ∈ o, x ∈ old := fun o ho x hx => mem_srt.mp ((mem_allO.mp (hWs o ho)).subset hx)
    -- known
    refine ⟨_, rfl, _, rfl, old, W, op, wq, wv, rfl, hop7, hwq, hwv, old6, by omega, fun kv H8 s8 hk8 => ?_⟩
    have t8 := t7.mono s8 (Nat.le_refl _)
    have hop8 := s8 _ _ hop7
    have hq8 := s8 _ _ hq7
    have hwq8 := s8 _ _ hwq
    have hwv8 := hwv.mono (.of s8)
    -- facts
    refine ⟨_, rfl, a, c, 100 + 70, 5, rfl, t8, by omega, by decide, fun r9 H9 r90 r91 kb9 t9 => ⟨1, r9, rfl, rfl, 1 + r9, rfl, by omega, by omega, fun D hD => ?_⟩⟩
    have hN : (1 + r9).toNat ≤ 5 := by omega
    have hN1 : 1 ≤ (1 + r9).toNat := by omega
    generalize (1 + r9).toNat = N at hN hN1 ⊢
    have hq9 := kb9 _ _ n0a n0c hq8
    refine lcR (n0 := 100 + 70 + 1) (N := N) (cost := 1001) tF (fun f => FOk 3 f ∧ ∀ x ∈ nm f, x ∈ names) t9 hD (by omega) (fun i H' hi kb' ts' t' Qy Qn ky => ⟨rfl, ?_⟩) fun H10 fv fs kb10 t10 hD10 hfv hfl hfs nDa nDc => ?_
    · have hq' := kb' _ _ n0a n0c (ne_of_none hq9 hD) hq9
      refine ⟨_, rfl, _, rfl, _, rfl, a, c, 100 + 70 + 1 + i * 1001, 3, rfl, t', by omega, by decide, fun z H11 z0 z1 kb11 t11 => ?_⟩
      have hq11 := kb11 _ _ n0a n0c hq'
      have go : ∀ (d : Nat), d ≤ 2 → z = (d : Int) → spFact (d + 1) [V.ref a, V.ref q0, V.int z] H11 Qy E0 := fun d hd hz => by
        have hb : bud d ≤ 1000 := Nat.le_trans (Nat.pow_le_pow_right (by decide) (by omega : d + 1 ≤ 3)) (by decide)
        refine ⟨d, a, c, q0, 100 + 70 + 1 + i * 1001 + 1, names, rfl, by rw [hz], t11, by omega, hq11, n0a, n0c, hne, by omega, fun u g H12 kb12 t12 hu hg hnm => ?_⟩
        exact ky g u H12 ⟨hg.mono (by omega), hnm⟩ (kb11.trans kb12) (t12.up (by omega)) hu
      have h3 : z = 0 ∨ z = 1 ∨ z = 2 := by omega
      rcases h3 with h | h | h
      · exact .inl (go 0 (by omega) h)
      · exact .inr (.inl (go 1 (by omega) h))
      · exact .inr (.inr (go 2 (by omega) h))
    have fvl : fv.length = N := by rw [hfv.len, List.length_map]; exact hfl
    have hop10 := kb10 _ _ noa noc (kb9 _ _ noa noc hop8)
    have hwq10 := kb10 _ _ nwa nwc (kb9 _ _ nwa nwc hwq8)
    have ts810 : TS H8 H10 := (t8.ts kb9).trans (t9.ts kb10)
    have hk10 := hk8.mono ts810
    have hwv10 := hwv8.mono ts810
    -- left, other
    refine ⟨_, rfl, D, fv, rfl, .inl hD10, fun l hl => ⟨Nat.zero_le _, fun ot hot => ?_⟩⟩
    obtain ⟨nla, nlc⟩ := t10.free hl
    have g11 := same_new hl (HO.lst fv)
    have e11 : (upd H10 l (.lst fv)) l = some (.lst fv) := upd_same
    have nDl : D ≠ l := ne_of_none hD10 hl
    have nol : op ≠ l := ne_of_none hop10 hl
    have nwl : wq ≠ l := ne_of_none hwq10 hl
    generalize upd H10 l (.lst fv) = H11 at g11 e11 hot ⊢
    have t11 := t10.mono g11 (Nat.le_refl _)
    have hotH : H11 ot = none := hot
    obtain ⟨nta, ntc⟩ := t11.free hotH
    have g12 := same_new hot (HO.lst [])
    have e12 : (upd H11 ot (.lst [])) ot = some (.lst []) := upd_same
    have nlt : l ≠ ot := ne_of_none e11 hotH
    have nDt : D ≠ ot := ne_of_none (g11 _ _ hD10) hotH
    have nopt : op ≠ ot := ne_of_none (g11 _ _ hop10) hotH
    have nwt : wq ≠ ot := ne_of_none (g11 _ _ hwq10) hotH
    generalize upd H11 ot (.lst []) = H12 at g12 e12 ⊢
    have s12 := g11.trans g12
    have t12 := t11.mono g12 (Nat.le_refl _)
    have hl12 := g12 _ _ e11
    have hD12 := s12 _ _ hD10
    have hfv12 := hfv.mono (.of s12)
    have ts4 : ∀ H', Kb4 a c l ot H12 H' → TS H12 H' := fun H' k b xs e => by
      obtain ⟨cells, p, x, y, q1, q2, _, _⟩ := t12.ex
      exact k b _ (fun z => by rw [z, q1] at e; cases e) (fun z => by rw [z, q2] at e; cases e) (fun z => by rw [z, hl12] at e; cases e) (fun z => by rw [z, e12] at e; cases e) e
    generalize hn0 : 100 + 70 + 1 + N * 1001 = n0 at t12
    have n0le : n0 ≤ 10000 := by omega
    refine ⟨_, rfl, D, fv, rfl, .inl hD12, (fv.length : Int), rfl, by omega, by omega, ?_⟩
    have efn : ((fv.length : Nat) : Int).toNat = N := by omega
    rw [efn]
    refine for_range (lo := 0) (n := N) (fun i σ H' => ∃ (y : Option V) (L O : List Fs) (lv ov : List V), σ = [some (V.ref sp), some (V.ref a), some (V.ref q0), some (V.ref op), some (V.ref wq), some kv, some (V.ref D), some (V.ref l), some (V.ref ot), y, none, none, none, none, none, none, none] ∧
        Kb4 a c l ot H12 H' ∧ TapeAt H' a c (n0 + i) ∧ H' l = some (.lst lv) ∧ Ats H' (L.map tF) lv ∧ H' ot = some (.lst ov) ∧ Ats H' (O.map tF) ov ∧ (O ++ L).Perm fs ∧ O.length = i)
      ⟨none, fs, [], fv, [], rfl, fun _ _ _ _ _ _ e => e, t12, hl12, hfv12, e12, .nil, List.Perm.refl _, rfl⟩ ?_ ?_
    · rintro i σ H' hi ⟨y, L, O, lv, ov, rfl, kb, t', hl', hlv, ho', hov, pm, hOl⟩
      have hLl : L.length = N - i := by
        have := pm.length_eq
        rw [List.length_append] at this
        omega
      have lvl : lv.length = L.length := by rw [hlv.len, List.length_map]
      have ovl : ov.length = i := by rw [hov.len, List.length_map]; exact hOl
      refine ⟨_, rfl, .inl ⟨rfl, _, SqL.of ho'⟩, _, rfl, .inl ⟨rfl, _, SqL.of hl'⟩, _, rfl, _, rfl, l, _, rfl, .inl hl', a, c, n0 + i, lv.length, rfl, t', by omega, by omega, fun r H13 r0 r1 kb13 t13 => ?_⟩
      have hl13 := kb13 _ _ nla nlc hl'
      have ho13 := kb13 _ _ nta ntc ho'
      have ts13 := t'.ts kb13
      have hrl : r.toNat < L.length := by omega
      obtain ⟨v, hv, hat⟩ := hlv.get' (i := r.toNat) (t := tF L[r.toNat]) (by rw [List.getElem?_map, List.getElem?_eq_getElem hrl]; rfl)
      refine ⟨l, lv, r, r.toNat, v, rfl, rfl, hl13, by omega, by omega, seqIndex_of r0 (by omega), hv, ?_⟩
      have ts14 : TS H13 (upd H13 l (.lst (lv.eraseIdx r.toNat))) := TS.lst hl13
      have ho14 : (upd H13 l (.lst (lv.eraseIdx r.toNat))) ot = some (.lst ov) := by rw [upd_ne (Ne.symm nlt)]; exact ho13
      have ts15 : TS (upd H13 l (.lst (lv.eraseIdx r.toNat))) (upd (upd H13 l (.lst (lv.eraseIdx r.toNat))) ot (.lst (ov ++ [v]))) := TS.lst ho14
      have tsA := ts13.trans (ts14.trans ts15)
      refine ⟨ot, ov, v, rfl, rfl, ho14, small_line (by omega), ?_⟩
      refine ⟨_, L.eraseIdx r.toNat, O ++ [L[r.toNat]], lv.eraseIdx r.toNat, ov ++ [v], rfl, fun b u m1 m2 m3 m4 e => ?_, (t13.put _ nla nlc).put _ nta ntc, ?_, ?_, upd_same, ?_, ?_, ?_⟩
      · rw [upd_ne m4, upd_ne m3]
        exact kb13 b u m1 m2 (kb b u m1 m2 m3 m4 e)
      · rw [upd_ne nlt, upd_same]
      · rw [← map_erase]
        exact (hlv.erase r.toNat).mono tsA
      · rw [List.map_append]
        exact (hov.mono tsA).app (.cons (hat.mono tsA) .nil)
      · rw [List.append_assoc]
        exact (List.Perm.append_left O (perm_erase (List.getElem?_eq_getElem hrl))).trans pm
      · rw [List.length_append, hOl]
        rfl
    rintro σ H13 ⟨y9, L, O, lv, ov, rfl, kb13, t13, hl13, hlv, ho13, hov, pm, hOl⟩
    have eL : L = [] := by
      have := pm.length_eq
      rw [List.length_append] at this
      exact List.eq_nil_of_length_eq_zero (by omega)
    rw [eL, List.append_nil] at pm
    have ts13 := ts4 _ kb13
    have hD13 := kb13 _ _ nDa nDc nDl nDt hD12
    have hfv13 := hfv12.mono ts13
    have hop13 := kb13 _ _ noa noc nol nopt (s12 _ _ hop10)
    have hwq13 := kb13 _ _ nwa nwc nwl nwt (s12 _ _ hwq10)
    have hwv13 := hwv10.mono ((TS.of s12).trans ts13)
    have hk13 := hk10.mono ((TS.of s12).trans ts13)
    clear hlv hl13 t13 hot hotH hl eL kb13 ts4
    -- joined
    have fsp : 0 < fs.length := by omega
    obtain ⟨v0, hv0, hat0⟩ := hfv13.get' (i := 0) (t := tF fs[0]) (by rw [List.getElem?_map, List.getElem?_eq_getElem fsp]; rfl)
    refine ⟨_, rfl, D, fv, 0, v0, rfl, rfl, hD13, atI_nat hv0, ?_⟩
    dsimp only [gName]
    show tSeq ?A2 ?B2 ?cs2 ?s2 ?h2
    have rest2 : ∀ (g : Fs) (jv : V) (H14 : Hp), Same H13 H14 → At H14 (tF g) jv → FOk 4 g → (∀ c, (∀ f ∈ [g], ev f c = true) ↔ ∀ f ∈ fs, ev f c = true) → (∀ x, (∃ f ∈ [g], x ∈ nm f) ↔ ∃ f ∈ fs, x ∈ nm f) →
        ?B2 ?cs2 [some (V.ref sp), some (V.ref a), some (V.ref q0), some (V.ref op), some (V.ref wq), some kv, some (V.ref D), some (V.ref l), some (V.ref ot), y9, some jv, none, none, none, none, none, none] H14 := by
      intro g jv H14 s14 hjv hgok hgev hgnm
      have fs5 : fs.length ≤ 5 := by omega
      have hD14 := s14 _ _ hD13
      have hop14 := s14 _ _ hop13
      have hfv14 := hfv13.mono (.of s14)
      -- fresh
      refine ⟨Nat.zero_le _, fun fr0 hfr0 => ?_⟩
      have g15 := same_new hfr0 (HO.lst [])
      have e15 : (upd H14 fr0 (.lst [])) fr0 = some (.lst []) := upd_same
      generalize upd H14 fr0 (.lst []) = H15 at g15 e15 ⊢
      have hD15 := g15 _ _ hD14
      refine ⟨_, rfl, D, rfl, ⟨_, SqL.of hD15⟩, for_list (xs := fv) (fun i σ H' => ∃ (y : Option V) (fr : Addr), σ = [some (V.ref sp), some (V.ref a), some (V.ref q0), some (V.ref op), some (V.ref wq), some kv, some (V.ref D), some (V.ref l), some (V.ref ot), y9, some jv, some (V.ref fr), y, none, none, none, none] ∧
          Same H15 H' ∧ H' fr = some (.lst (((((fs.take i).flatMap nm).filter fun x => !decide (x ∈ old))).map V.str)))
        ⟨none, fr0, rfl, Same.refl _, by rw [List.take_zero]; exact e15⟩ (fun i σ H' _ ⟨_, _, _, s', _⟩ => SqL.of (s' _ _ hD15)) ?_ ?_⟩
      · rintro i z σ H' hz ⟨y, fr, rfl, s', hfr⟩
        obtain ⟨g2, hg2, hat2⟩ := (hfv14.mono (.of g15)).getE hz
        have hgm := List.mem_of_getElem? hg2
        have hok3 := (hfs g2 hgm).1
        have hnl := nm_len 3 g2 hok3
        have hnl : (nm g2).length ≤ 1000 := hnl
        refine ⟨_, rfl, _, rfl, g2, z, rfl, hok3.mono (by omega), hat2.mono (.of s'), fun q H16 s16 hq => ⟨q, rfl, ⟨_, SqL.of hq⟩, fun Dn hDn => lcL (cs := nm g2) T.s (fmIf (fun x => !decide (x ∈ old)) T.s) hq Ats.of hnl hDn (fun x hx => ?_) fun H17 ys s17 hys hat => ?_⟩⟩
        · intro v H18 hv s18 Qy Qn ky kn
          obtain rfl : v = V.str x := hv
          refine ⟨rfl, ⟨_, rfl, _, rfl, x, op, old, rfl, rfl, .inl (s18 _ _ (s16 _ _ (s' _ _ (g15 _ _ hop14)))), _, rfl, ?_⟩⟩
          by_cases hm : x ∈ old
          · exact ifF (by rw [decide_eq_true hm]; rfl) (kn _ (fm_no (by rw [decide_eq_true hm]; rfl)) (Same.refl _))
          · exact ifT (by rw [decide_eq_false hm]; rfl) ⟨_, rfl, ky (T.s x) _ _ (fm_yes (by rw [decide_eq_false hm]; rfl)) (Same.refl _) rfl⟩
        · rw [fm_if] at hat
          rw [Ats.strs.mp hat] at hys
          have h1 := flat_len nm 1000 (fs.take i) fun x hx => nm_len 3 x (hfs x (List.mem_of_mem_take hx)).1
          have h2 : (fs.take i).length ≤ 5 := by rw [List.length_take]; omega
          have h3 := Nat.mul_le_mul_right 1000 h2
          have h4 := List.length_filter_le (fun x => !decide (x ∈ old)) ((fs.take i).flatMap nm)
          have h5 := List.length_filter_le (fun x => !decide (x ∈ old)) (nm g2)
          refine ⟨fr, Dn, _, _, rfl, rfl, s17 _ _ (s16 _ _ hfr), hys, Nat.le_of_lt (small_line (by rw [List.length_map, List.length_map]; omega)), fun r hr' => ?_⟩
          refine ⟨_, r, rfl, s'.trans (s16.trans (s17.trans (same_new hr' _))), ?_⟩
          rw [upd_same, take_cat nm hg2, List.filter_append, List.map_append]
      rintro σ H16 ⟨y12, fr, rfl, s16, hfr⟩
      have etk : fs.take fv.length = fs := by rw [fvl, ← hfl, List.take_length]
      rw [etk] at hfr
      have h1 := flat_len nm 1000 fs fun x hx => nm_len 3 x (hfs x hx).1
      have h3 := Nat.mul_le_mul_right 1000 fs5
      have h4 := List.length_filter_le (fun x => !decide (x ∈ old)) (fs.flatMap nm)
      refine ⟨_, rfl, _, fr, rfl, hfr, by omega, fun fq H17 s17 hfq => ?_⟩
      have efr : once [] ((fs.flatMap nm).filter fun x => !decide (x ∈ old)) = freshOf old fs := rfl
      rw [efr] at hfq
      have ndof : (old ++ freshOf old fs).Nodup := List.nodup_append.mpr ⟨ndo, once_nodup List.Pairwise.nil, fun x hx y hy e => (fresh_of.mp hy).2 (e ▸ hx)⟩
      have sub6 : (old ++ freshOf old fs).length ≤ 6 := Nat.le_trans (List.Nodup.length_le_of_subset ndof fun x hx => by
        rcases List.mem_append.mp hx with h | h
        · exact hon x h
        · obtain ⟨⟨g3, hg3, hx3⟩, _⟩ := fresh_of.mp h
          exact (hfs g3 hg3).2 x hx3) l6
      have s147 : Same H14 H17 := g15.trans (s16.trans s17)
      have s137 := s14.trans s147
      clear hfr etk
      have hwq17 := s137 _ _ hwq13
      have hwv17 := hwv13.mono (.of s137)
      have hD17 := s137 _ _ hD13
      have hfv17 := hfv13.mono (.of s137)
      have fr6 : (freshOf old fs).length ≤ 6 := by
        rw [List.length_append] at sub6
        omega
      have hEl : (extend W (freshOf old fs)).length ≤ 64 := by
        refine Nat.le_trans (extend_len hWl _) (pow6 ?_)
        rw [List.length_append] at sub6
        exact sub6
      have hWle : ∀ o ∈ W, o.length ≤ 100 := fun o ho => by
        have h1 := (mem_allO.mp (hWs o ho)).length_le
        rw [srt_length] at h1
        omega
      -- agreeing
      refine ⟨Nat.zero_le _, fun ag hag => ?_⟩
      have hagH : H17 ag = none := hag
      have g18 := same_new hag (HO.lst [])
      have e18 : (upd H17 ag (.lst [])) ag = some (.lst []) := upd_same
      have nDag : D ≠ ag := ne_of_none hD17 hagH
      generalize upd H17 ag (.lst []) = H18 at g18 e18 ⊢
      refine ⟨_, rfl, _, rfl, W, freshOf old fs, wq, fq, wv, rfl, g18 _ _ hwq17, hwv17.mono (.of g18), hWle, hW64, g18 _ _ hfq, fr6, fun xq xs H19 s19 hxq hxs => ?_⟩
      have e19 := s19 _ _ e18
      have hD19 := s19 _ _ (g18 _ _ hD17)
      have hfv19 := (hfv17.mono (.of g18)).mono (.of s19)
      have nxag : xq ≠ ag := fun z => by
        rw [z, e19] at hxq
        have h1 := Option.some.inj hxq
        injection h1 with h1
        rw [← h1] at hxs
        have h2 := hxs.len
        rw [List.length_map] at h2
        obtain ⟨w0, hw0⟩ := List.exists_mem_of_ne_nil W hW
        have h3 : w0 ++ [] ∈ extend W (freshOf old fs) := List.mem_flatMap.mpr ⟨[], mem_allO.mpr (List.nil_sublist _), List.mem_map.mpr ⟨w0, hw0, rfl⟩⟩
        rw [List.eq_nil_of_length_eq_zero h2.symm] at h3
        cases h3
      have xsl : xs.length = (extend W (freshOf old fs)).length := by rw [hxs.len, List.length_map]
      refine ⟨xq, rfl, ⟨_, SqL.of hxq⟩, for_list (xs := xs) (fun i σ H' => ∃ (y : Option V) (av : List V), σ = [some (V.ref sp), some (V.ref a), some (V.ref q0), some (V.ref op), some (V.ref wq), some kv, some (V.ref D), some (V.ref l), some (V.ref ot), y9, some jv, some (V.ref fq), y12, some (V.ref ag), y, none, none] ∧
          Kb ag H19 H' ∧ H' ag = some (.lst av) ∧ Ats H' ((((extend W (freshOf old fs)).take i).filter fun row => fs.all fun f => ev f fun x => decide (x ∈ row)).map tS) av)
        ⟨none, [], rfl, Kb.refl _ _, e19, .nil⟩ (fun i σ H' _ ⟨_, _, _, kb, _⟩ => SqL.of (kb _ _ nxag hxq)) ?_ ?_⟩
      · rintro i z σ H' hz ⟨y, av, rfl, kb, hag', hav⟩
        obtain ⟨row, hrow, hrat⟩ := hxs.getE hz
        have hi : i < (extend W (freshOf old fs)).length := (List.getElem?_eq_some_iff.mp hrow).1
        have ts' := kb.ts e19
        have hD' := kb _ _ nDag hD19
        have hr' := hrat.mono ts'
        refine ⟨_, rfl, D, rfl, ⟨_, SqL.of hD'⟩, fun Dn hDn => lcL (cs := fs) tF (fmIf (fun f => !ev f fun x => decide (x ∈ row)) tF) hD' (hfv19.mono ts') (by omega) hDn (fun g2 hg2 => ?_) fun H20 ys s20 hys hat => ?_⟩
        · intro v H21 hv s21 Qy Qn ky kn
          refine ⟨rfl, ⟨_, rfl, _, rfl, g2, row, v, _, rfl, (hfs g2 hg2).1.mono (by omega), hv, hr'.mono (.of s21), fun H22 s22 => ⟨_, rfl, ?_⟩⟩⟩
          cases e : ev g2 fun x => decide (x ∈ row) with
          | false => exact ⟨_, rfl, ky (tF g2) _ _ (fm_yes (by rw [e]; rfl)) s22 (hv.mono (.of s22))⟩
          | true => exact kn _ (fm_no (by rw [e]; rfl)) s22
        · refine ⟨Dn, ys, rfl, .inl hys, rfl, _, rfl, ?_⟩
          have hag20 := s20 _ _ hag'
          have hav20 := hav.mono (.of s20)
          have kb20 : Kb ag H19 H20 := kb.trans (Kb.of s20)
          have ee : decide (V.int (ys.length : Int) = V.int 0) = fs.all fun f => ev f fun x => decide (x ∈ row) := by
            rw [← none_no, show V.int 0 = V.int ((0 : Nat) : Int) from rfl, dec_nat, hat.len, fm_if, List.length_map]
          show (if decide (V.int (ys.length : Int) = V.int 0) = true then _ else _)
          rw [ee]
          refine ite2 (fun c => ?_) (fun c => ?_)
          · have avl : av.length ≤ 64 := by
              have h1 := List.length_filter_le (fun row => fs.all fun f => ev f fun x => decide (x ∈ row)) ((extend W (freshOf old fs)).take i)
              rw [List.length_take] at h1
              rw [hav.len, List.length_map]
              omega
            refine ⟨_, rfl, .inl ⟨rfl, _, SqL.of hag20⟩, _, rfl, ag, av, _, rfl, rfl, hag20, small_line (by omega), ?_⟩
            have tsu : TS H20 (upd H20 ag (.lst (av ++ [z]))) := TS.lst hag20
            refine ⟨_, av ++ [z], rfl, kb20.trans (Kb.put _ _ _), upd_same, ?_⟩
            rw [take_succ hrow, List.filter_append, List.filter_cons_of_pos (p := fun row => fs.all fun f => ev f fun x => decide (x ∈ row)) c, List.filter_nil, List.map_append]
            exact (hav20.mono tsu).app (.cons (hr'.mono ((TS.of s20).trans tsu)) .nil)
          · refine ⟨_, av, rfl, kb20, hag20, ?_⟩
            rw [take_succ hrow, List.filter_append, List.filter_cons_of_neg (p := fun row => fs.all fun f => ev f fun x => decide (x ∈ row)) c, List.filter_nil, List.append_nil]
            exact hav20
      rintro σ H20 ⟨y14, av, rfl, kb20, hag20, hav20⟩
      rw [xsl, List.take_length] at hav20
      have eag : ((extend W (freshOf old fs)).filter fun row => fs.all fun f => ev f fun x => decide (x ∈ row)) = agreeing W (freshOf old fs) fs := rfl
      rw [eag] at hav20
      have s1720 : Same H17 H20 := kb20.same (g18.trans s19) hagH
      have s1320 := s137.trans s1720
      clear kb20 e19 e18 hxs hxq
      have hgood : ∀ f ∈ fs, FOk 4 f ∧ ∀ x ∈ nm f, x ∈ names := fun f hf => ⟨(hfs f hf).1.mono (by omega), (hfs f hf).2⟩
      have rep : Rep leS (kn leS old W) old (Cyl old W) := ⟨ndo, W, hW, rfl, fun _ => Iff.rfl⟩
      have hD20 := s1320 _ _ hD13
      have hfv20 := hfv13.mono (.of s1320)
      have ho20 := s1320 _ _ ho13
      have hov20 := hov.mono (.of s1320)
      have hk20 := hk13.mono (.of s1320)
      have hop20 := s1320 _ _ hop13
      have hfq20 := s1720 _ _ hfq
      have hjv20 := hjv.mono (.of (s147.trans s1720))
      have tokd : TOk 5 (outT (due leS old W fs)) := tok_due sub6
      -- due
      refine ⟨(by show 1 ≤ sizeLine; decide), fun dt hdt => ?_⟩
      have g21 := same_new hdt (HO.tup [V.str "contradiction"])
      have e21 : (upd H20 dt (.tup [V.str "contradiction"])) dt = some (.tup [V.str "contradiction"]) := upd_same
      generalize upd H20 dt (.tup [V.str "contradiction"]) = H21 at g21 e21 ⊢
      dsimp only [gName]
      show tSeq ?A3 ?B3 ?cs3 ?s3 ?h3
      have rest3 : ∀ (dv : V) (H22 : Hp), Same H20 H22 → At H22 (outT (due leS old W fs)) dv →
          ?B3 ?cs3 [some (V.ref sp), some (V.ref a), some (V.ref q0), some (V.ref op), some (V.ref wq), some kv, some (V.ref D), some (V.ref l), some (V.ref ot), y9, some jv, some (V.ref fq), y12, some (V.ref ag), y14, some dv, none] H22 := by
        intro dv H22 s22 hdv
        have el1 : learnAll leS (kn leS old W) fs = due leS old W fs := law_due leS_ord ndo hW hWo (fun _ => Iff.rfl) (fun _ => Iff.rfl)
        have el2 : learnAll leS (kn leS old W) O = due leS old W fs := law_due leS_ord ndo hW hWo
          (fun c => ⟨fun h f hf => h f (pm.mem_iff.mpr hf), fun h f hf => h f (pm.mem_iff.mp hf)⟩) (fun x => ⟨fun ⟨f, hf, hx⟩ => ⟨f, pm.mem_iff.mp hf, hx⟩, fun ⟨f, hf, hx⟩ => ⟨f, pm.mem_iff.mpr hf, hx⟩⟩)
        have el3 : learnAll leS (kn leS old W) [g] = due leS old W fs := law_due leS_ord ndo hW hWo hgev hgnm
        refine ⟨_, rfl, _, rfl, kn leS old W, old, names, Cyl old W, fs, kv, D, fv, rfl, hk20.mono (.of s22), rep, hon, l6, s22 _ _ hD20, hfv20.mono (.of s22), hgood, fun u H23 s23 hu => ?_⟩
        rw [el1] at hu
        refine ⟨_, rfl, outT (due leS old W fs), u, dv, rfl, tokd, hu, hdv.mono (.of s23), fun H24 s24 => ⟨_, rfl, ifF rfl ?_⟩⟩
        have s224 := s22.trans (s23.trans s24)
        refine ⟨_, rfl, _, rfl, kn leS old W, old, names, Cyl old W, O, kv, ot, ov, rfl, hk20.mono (.of s224), rep, hon, l6, s224 _ _ ho20, hov20.mono (.of s224), fun f hf => hgood f (pm.mem_iff.mp hf), fun u2 H25 s25 hu2 => ?_⟩
        rw [el2] at hu2
        refine ⟨_, rfl, outT (due leS old W fs), u2, dv, rfl, tokd, hu2, hdv.mono (.of (s23.trans (s24.trans s25))), fun H26 s26 => ⟨_, rfl, ifT rfl ?_⟩⟩
        have s226 := s224.trans (s25.trans s26)
        refine ⟨_, rfl, _, rfl, (by show 1 ≤ sizeLine; decide), fun jp hjp => ?_⟩
        have g27 := same_new hjp (HO.lst [jv])
        have s227 := s226.trans g27
        refine ⟨kn leS old W, old, names, Cyl old W, [g], kv, jp, [jv], rfl, hk20.mono (.of s227), rep, hon, l6, upd_same, .cons (hjv20.mono (.of s227)) .nil, fun f hf => ?_, fun u3 H28 s28 hu3 => ?_⟩
        · refine ⟨?_, fun x hx => ?_⟩
          · rw [List.mem_singleton.mp hf]
            exact hgok
          · obtain ⟨f2, hf2, hx2⟩ := (hgnm x).mp ⟨f, hf, hx⟩
            exact (hfs f2 hf2).2 x hx2
        rw [el3] at hu3
        exact ⟨_, rfl, outT (due leS old W fs), u3, dv, rfl, tokd, hu3, hdv.mono (.of (s23.trans (s24.trans (s25.trans (s26.trans (g27.trans s28)))))), fun H29 s29 => fin H29⟩
      refine ⟨_, rfl, ag, av, rfl, g21 _ _ hag20, ?_⟩
      have avl : av.length = (agreeing W (freshOf old fs) fs).length := by rw [hav20.len, List.length_map]
      by_cases ca : agreeing W (freshOf old fs) fs = []
      · have ea : av = [] := List.eq_nil_of_length_eq_zero (by rw [avl, ca]; rfl)
        refine ifF (by rw [ea]; rfl) (rest3 _ H21 g21 ?_)
        unfold due
        rw [if_pos ca]
        exact at_tup (.cons rfl .nil) e21
      · have ea : av.isEmpty = false := by
          cases av with
          | nil => exact absurd (List.eq_nil_of_length_eq_zero avl.symm) ca
          | cons _ _ => rfl
        have agl : (agreeing W (freshOf old fs) fs).length ≤ 64 := Nat.le_trans (List.length_filter_le _ _) hEl
        refine ifT (by rw [ea]; rfl) ⟨_, rfl, _, rfl, op, fq, _, _, rfl, rfl, g21 _ _ hop20, g21 _ _ hfq20, Nat.le_of_lt (small_line (by rw [List.length_map, List.length_map]; omega)), fun np hnp => ?_⟩
        have g22 := same_new hnp (HO.lst (old.map V.str ++ (freshOf old fs).map V.str))
        have s2022 := g21.trans g22
        refine ⟨_, rfl, old ++ freshOf old fs, agreeing W (freshOf old fs) fs, np, ag, av, rfl, by rw [upd_same, List.map_append], s2022 _ _ hag20, hav20.mono (.of s2022), sub6, by omega, fun kv2 H23 s23 hkv2 => ⟨two_line, fun t2 ht2 => ?_⟩⟩
        have g24 := same_new ht2 (HO.tup [V.str "told", kv2])
        refine rest3 _ _ (s2022.trans (s23.trans g24)) ?_
        unfold due
        rw [if_neg ca]
        exact at_tup (.cons rfl (.cons (hkv2.mono (.of g24)) .nil)) upd_same
    have f0ok := hfs fs[0] (List.getElem_mem _)
    refine ⟨_, rfl, D, fv, rfl, .inl hD13, _, _, rfl, rfl, _, rfl, ?_⟩
    by_cases c1 : 1 < fs.length
    · refine ifT (decide_eq_true (by omega)) ⟨_, rfl, D, fv, rfl, hD13, fun t1' ht1' => ⟨two_line, fun t2' ht2' => ?_⟩⟩
      have g1 := same_new ht1' (HO.tup fv)
      have f1 : (upd H13 t1' (.tup fv)) t1' = some (.tup fv) := upd_same
      generalize upd H13 t1' (.tup fv) = H14 at g1 f1 ht2' ⊢
      have g2 := same_new ht2' (HO.tup [V.str "and", V.ref t1'])
      refine rest2 (K49.F.an fs) _ _ (g1.trans g2) ?_ ⟨by omega, fun g hg => (hfs g hg).1⟩ (fun c => ?_) (fun x => ?_)
      · rw [tF, tFs_map]
        exact at_tup (.cons rfl (.cons ⟨t1', fv, rfl, g2 _ _ f1, hfv13.mono (.of (g1.trans g2))⟩ .nil)) upd_same
      · refine ⟨fun h => (ev_an fs c).mp (h _ (List.mem_singleton.mpr rfl)), fun h f hf => ?_⟩
        rw [List.mem_singleton.mp hf]
        exact (ev_an fs c).mpr h
      · have en : nm (K49.F.an fs) = fs.flatMap nm := nms_flat fs
        constructor
        · rintro ⟨f, hf, hx⟩
          rw [List.mem_singleton.mp hf, en] at hx
          exact List.mem_flatMap.mp hx
        · intro h
          exact ⟨_, List.mem_singleton.mpr rfl, by rw [en]; exact List.mem_flatMap.mpr h⟩
    · have ef : fs = [fs[0]] := by
        cases fs with
        | nil => exact absurd fsp (Nat.lt_irrefl 0)
        | cons x r =>
          cases r with
          | nil => rfl
          | cons y r => exact absurd (show 1 < (x :: y :: r).length by rw [List.length_cons, List.length_cons]; omega) c1
      refine ifF (decide_eq_false (by omega)) (rest2 fs[0] v0 H13 (Same.refl _) hat0 (f0ok.1.mono (by omega)) (fun c => ?_) (fun x => ?_))
      · rw [← ef]
      · rw [← ef]
  refine ⟨_, rfl, a, c, 63 + 8 + 1, 2, rfl, t4, by omega, by decide, fun r5 H5 r50 r51 kb5 t5 => ⟨rfl, _, rfl, ?_⟩⟩
  have hq5 := kb5 _ _ n0a n0c hq4
  have e5 := kb5 _ _ n4a n4c e4
  refine ite2 (fun _ => ?_) (fun _ => ?_)
  · refine ⟨Nat.zero_le _, fun p6 hp6 => ?_⟩
    obtain ⟨n6a, n6c⟩ := t5.free hp6
    have g6 := same_new hp6 (HO.lst [])
    exact rest [] p6 _ (t5.mono g6 (by omega)) (g6 _ _ hq5) upd_same n6a n6c List.nodup_nil (fun x hx => by cases hx)
  · exact rest (names.take nn.toNat) p4 H5 (t5.up (by omega)) hq5 e5 n4a n4c (List.Pairwise.sublist (List.take_sublist _ _) nd) (fun x hx => List.mem_of_mem_take hx)
end
end K49
namespace K49
open PySem PySem.Spec PyProof.Rows L2
section
variable {P : Program} {w : World} {K : PySem.W.Frag} {mg : PySem.Str → Option Value} {base : Heap} {f : Addr} {fd : FuncData}
theorem add_all (F : Fun K "add_names" "add_names" s_add_names f fd) (m : mg "add_names" = some (.ref f)) (b : Binds K fd ["fact", "found"] []) (D1 : Def P w K mg base CX0 1 "listed_names" ["fact"] spListed) (D2 : Def P w K mg base CX0 1 "parts_of" ["fact"] spParts) : ∀ n : Nat, Def P w K mg base CX0 (n + 2) "add_names" ["fact", "found"] (spAddN n)
  | 0 => ⟨⟨f, fd, add_none, m, F.kp, b⟩⟩
  | n + 1 => ⟨⟨f, fd, ok_add_names F n (add_all F m b D1 D2 n) D1 D2, m, F.kp, b⟩⟩
theorem holds_all (F : Fun K "holds" "holds" s_holds f fd) (B : Blt mg) (m : mg "holds" = some (.ref f)) (b : Binds K fd ["fact", "committed"] []) : ∀ n : Nat, Def P w K mg base CX0 (n + 1) "holds" ["fact", "committed"] (spHolds n)
  | 0 => ⟨⟨f, fd, holds_none, m, F.kp, b⟩⟩
  | n + 1 => ⟨⟨f, fd, ok_holds F B n (holds_all F B m b n), m, F.kp, b⟩⟩
theorem true_all (F : Fun K "_law_true" "_law_true" s_law_true f fd) (B : Blt mg) (m : mg "_law_true" = some (.ref f)) (b : Binds K fd ["_law_fact_here", "_law_committed"] []) : ∀ n : Nat, Def P w K mg base CX0 (n + 1) "_law_true" ["_law_fact_here", "_law_committed"] (spHolds n)
  | 0 => ⟨⟨f, fd, true_none, m, F.kp, b⟩⟩
  | n + 1 => ⟨⟨f, fd, ok_true F B n (true_all F B m b n), m, F.kp, b⟩⟩
theorem listed_all (F : Fun K "_law_listed" "_law_listed" s_law_listed f fd) (B : Blt mg) (m : mg "_law_listed" = some (.ref f)) (b : Binds K fd ["_law_fact_here"] []) : ∀ n : Nat, n ≤ 4 → Def P w K mg base CX0 (n + 1) "_law_listed" ["_law_fact_here"] (spListL n)
  | 0, _ => ⟨⟨f, fd, listed_none, m, F.kp, b⟩⟩
  | n + 1, h => ⟨⟨f, fd, ok_listed F B n (by omega) (listed_all F B m b n (by omega)), m, F.kp, b⟩⟩
theorem same_all (F : Fun K "_law_same" "_law_same" s_law_same f fd) (B : Blt mg) (m : mg "_law_same" = some (.ref f)) (b : Binds K fd ["_law_told", "_law_due"] []) : ∀ n : Nat, Def P w K mg base CX0 (n + 1) "_law_same" ["_law_told", "_law_due"] (spSame n)
  | 0 => ⟨⟨f, fd, same_none, m, F.kp, b⟩⟩
  | n + 1 => ⟨⟨f, fd, ok_same F B n (same_all F B m b n), m, F.kp, b⟩⟩
theorem fact_all (F : Fun K "_law_fact" "_law_fact" s_law_fact f fd) (B : Blt mg) (m : mg "_law_fact" = some (.ref f)) (b : Binds K fd ["_law_tape_here", "_law_names_here", "_law_depth"] []) (D_draw : Def P w K mg base CX0 1 "_law_draw" ["_law_tape_here", "_law_many"] spDraw) : Def P w K mg base CX0 4 "_law_fact" ["_law_tape_here", "_law_names_here", "_law_depth"] spFactU := by
  have D0 : Def P w K mg base CX0 1 "_law_fact" ["_law_tape_here", "_law_names_here", "_law_depth"] (spFact 0) := ⟨⟨f, fd, fact_none, m, F.kp, b⟩⟩
  have F1 := ok_fact F B D_draw 0 D0
  have D1 : Def P w K mg base CX0 2 "_law_fact" ["_law_tape_here", "_law_names_here", "_law_depth"] (spFact 1) := ⟨⟨f, fd, F1, m, F.kp, b⟩⟩
  have F2 := ok_fact F B D_draw 1 D1
  have D2 : Def P w K mg base CX0 3 "_law_fact" ["_law_tape_here", "_law_names_here", "_law_depth"] (spFact 2) := ⟨⟨f, fd, F2, m, F.kp, b⟩⟩
  have F3 := ok_fact F B D_draw 2 D2
  exact ⟨⟨f, fd, fact_u (F1.mono (by decide)) (F2.mono (by decide)) F3, m, F.kp, b⟩⟩
/-- except S takes an error of the class at S itself -/
theorem exm_self {S : Addr} (h1 : PySem.W.subIn K (.ref S) (.type "BaseException") = some true) (h2 : PySem.W.isClsIn K S = true) (h3 : PySem.W.typeIn K (.ref S) = some (.type "type")) (h4 : PySem.W.subIn K (.ref S) (.ref S) = some true) : PySem.W.exmOne K (.ref S) (.ref S) = some true := by
  unfold PySem.W.isClsIn at h2
  unfold PySem.W.exmOne
  rw [h1, if_pos (by rfl)]
  show (if ((PySem.W.clsIn K S).isSome && PySem.W.typeIn K (.ref S) == some (.type "type")) = true then PySem.W.subIn K (.ref S) (.ref S) else none) = some true
  rw [h2, h3, if_pos (by rfl), h4]
end
theorem all_mk {l : PySem.W.OpenLaw} {w : World} {K : PySem.W.Frag} {h : Heap} {mg : PySem.Str → Option Value} {fa C f1 f2 f3 f4 f5 f6 f7 f8 f9 f10 f11 f12 f13 f14 f15 f16 f17 f18 f19 f20 f21 f22 f23 f24 f25 f26 f27 : Addr} {t6 : Tok} (X : K.In h) (G : h.Ns mainGlobals mg) (hfa : mg "law" = some (.ref fa))
    {od1 an1 od2 an2 od3 an3 od4 an4 od5 an5 od6 an6 od7 an7 od8 an8 od9 an9 od10 an10 od11 an11 od12 an12 od13 an13 od14 an14 od15 an15 od16 an16 od17 an17 od18 an18 od19 an19 od20 an20 od21 an21 od22 an22 od23 an23 od24 an24 od25 an25 od26 an26 od27 an27 : Option Addr} {sl1 sl2 sl3 sl4 sl5 sl6 sl7 sl8 sl9 sl10 sl11 sl12 sl13 sl14 sl15 sl16 sl17 sl18 sl19 sl20 sl21 sl22 sl23 sl24 sl25 sl26 sl27 : Array (Option Value)} {oc1 kV1 dc1 pm1 cd1 ct1 oc2 kV2 dc2 pm2 cd2 ct2 oc3 kV3 dc3 pm3 cd3 ct3 oc4 kV4 dc4 pm4 cd4 ct4 oc5 kV5 dc5 pm5 cd5 ct5 oc6 kV6 dc6 pm6 cd6 ct6 oc7 kV7 dc7 pm7 cd7 ct7 oc8 kV8 dc8 pm8 cd8 ct8 oc9 kV9 dc9 pm9 cd9 ct9 oc10 kV10 dc10 pm10 cd10 ct10 oc11 kV11 dc11 pm11 cd11 ct11 oc12 kV12 dc12 pm12 cd12 ct12 oc13 kV13 dc13 pm13 cd13 ct13 oc14 kV14 dc14 pm14 cd14 ct14 oc15 kV15 dc15 pm15 cd15 ct15 oc16 kV16 dc16 pm16 cd16 ct16 oc17 kV17 dc17 pm17 cd17 ct17 oc18 kV18 dc18 pm18 cd18 ct18 oc19 kV19 dc19 pm19 cd19 ct19 oc20 kV20 dc20 pm20 cd20 ct20 oc21 kV21 dc21 pm21 cd21 ct21 oc22 kV22 dc22 pm22 cd22 ct22 oc23 kV23 dc23 pm23 cd23 ct23 oc24 kV24 dc24 pm24 cd24 ct24 oc25 kV25 dc25 pm25 cd25 ct25 oc26 kV26 dc26 pm26 cd26 ct26 oc27 kV27 dc27 pm27 cd27 ct27 : Value}
    (a1 : PySem.W.nsIn K mainGlobals "parts_of" = some (some (.ref f1))) (l1 : K.lookup f1 = some ⟨oc1, od1, .func (PySem.W.fnOf "parts_of" "parts_of" (defArgs s_parts_of) (defBody s_parts_of) (defScope s_parts_of) .none kV1 dc1 pm1 an1 cd1 ct1), sl1⟩) (c1 : PySem.W.codeIn K cd1 "parts_of" = true) (k1 : PySem.W.keepIn K (.ref f1) = true)
    (a2 : PySem.W.nsIn K mainGlobals "listed_names" = some (some (.ref f2))) (l2 : K.lookup f2 = some ⟨oc2, od2, .func (PySem.W.fnOf "listed_names" "listed_names" (defArgs s_listed_names) (defBody s_listed_names) (defScope s_listed_names) .none kV2 dc2 pm2 an2 cd2 ct2), sl2⟩) (c2 : PySem.W.codeIn K cd2 "listed_names" = true) (k2 : PySem.W.keepIn K (.ref f2) = true)
    (a3 : PySem.W.nsIn K mainGlobals "add_names" = some (some (.ref f3))) (l3 : K.lookup f3 = some ⟨oc3, od3, .func (PySem.W.fnOf "add_names" "add_names" (defArgs s_add_names) (defBody s_add_names) (defScope s_add_names) .none kV3 dc3 pm3 an3 cd3 ct3), sl3⟩) (c3 : PySem.W.codeIn K cd3 "add_names" = true) (k3 : PySem.W.keepIn K (.ref f3) = true)
    (a4 : PySem.W.nsIn K mainGlobals "names_of" = some (some (.ref f4))) (l4 : K.lookup f4 = some ⟨oc4, od4, .func (PySem.W.fnOf "names_of" "names_of" (defArgs s_names_of) (defBody s_names_of) (defScope s_names_of) .none kV4 dc4 pm4 an4 cd4 ct4), sl4⟩) (c4 : PySem.W.codeIn K cd4 "names_of" = true) (k4 : PySem.W.keepIn K (.ref f4) = true)
    (a5 : PySem.W.nsIn K mainGlobals "holds" = some (some (.ref f5))) (l5 : K.lookup f5 = some ⟨oc5, od5, .func (PySem.W.fnOf "holds" "holds" (defArgs s_holds) (defBody s_holds) (defScope s_holds) .none kV5 dc5 pm5 an5 cd5 ct5), sl5⟩) (c5 : PySem.W.codeIn K cd5 "holds" = true) (k5 : PySem.W.keepIn K (.ref f5) = true)
    (a6 : PySem.W.nsIn K mainGlobals "all_outcomes" = some (some (.ref f6))) (l6 : K.lookup f6 = some ⟨oc6, od6, .func (PySem.W.fnOf "all_outcomes" "all_outcomes" (defArgs s_all_outcomes) (defBody s_all_outcomes) (defScope s_all_outcomes) .none kV6 dc6 pm6 an6 cd6 ct6), sl6⟩) (c6 : PySem.W.codeIn K cd6 "all_outcomes" = true) (k6 : PySem.W.keepIn K (.ref f6) = true)
    (a7 : PySem.W.nsIn K mainGlobals "restricted" = some (some (.ref f7))) (l7 : K.lookup f7 = some ⟨oc7, od7, .func (PySem.W.fnOf "restricted" "restricted" (defArgs s_restricted) (defBody s_restricted) (defScope s_restricted) .none kV7 dc7 pm7 an7 cd7 ct7), sl7⟩) (c7 : PySem.W.codeIn K cd7 "restricted" = true) (k7 : PySem.W.keepIn K (.ref f7) = true)
    (a8 : PySem.W.nsIn K mainGlobals "committed_names" = some (some (.ref f8))) (l8 : K.lookup f8 = some ⟨oc8, od8, .func (PySem.W.fnOf "committed_names" "committed_names" (defArgs s_committed_names) (defBody s_committed_names) (defScope s_committed_names) .none kV8 dc8 pm8 an8 cd8 ct8), sl8⟩) (c8 : PySem.W.codeIn K cd8 "committed_names" = true) (k8 : PySem.W.keepIn K (.ref f8) = true)
    (a9 : PySem.W.nsIn K mainGlobals "mention" = some (some (.ref f9))) (l9 : K.lookup f9 = some ⟨oc9, od9, .func (PySem.W.fnOf "mention" "mention" (defArgs s_mention) (defBody s_mention) (defScope s_mention) .none kV9 dc9 pm9 an9 cd9 ct9), sl9⟩) (c9 : PySem.W.codeIn K cd9 "mention" = true) (k9 : PySem.W.keepIn K (.ref f9) = true)
    (a10 : PySem.W.nsIn K mainGlobals "keep" = some (some (.ref f10))) (l10 : K.lookup f10 = some ⟨oc10, od10, .func (PySem.W.fnOf "keep" "keep" (defArgs s_keep) (defBody s_keep) (defScope s_keep) .none kV10 dc10 pm10 an10 cd10 ct10), sl10⟩) (c10 : PySem.W.codeIn K cd10 "keep" = true) (k10 : PySem.W.keepIn K (.ref f10) = true)
    (a11 : PySem.W.nsIn K mainGlobals "learn" = some (some (.ref f11))) (l11 : K.lookup f11 = some ⟨oc11, od11, .func (PySem.W.fnOf "learn" "learn" (defArgs s_learn) (defBody s_learn) (defScope s_learn) .none kV11 dc11 pm11 an11 cd11 ct11), sl11⟩) (c11 : PySem.W.codeIn K cd11 "learn" = true) (k11 : PySem.W.keepIn K (.ref f11) = true)
    (a12 : PySem.W.nsIn K mainGlobals "_law_tape" = some (some (.ref f12))) (l12 : K.lookup f12 = some ⟨oc12, od12, .func (PySem.W.fnOf "_law_tape" "_law_tape" (defArgs s_law_tape) (defBody s_law_tape) (defScope s_law_tape) .none kV12 dc12 pm12 an12 cd12 ct12), sl12⟩) (c12 : PySem.W.codeIn K cd12 "_law_tape" = true) (k12 : PySem.W.keepIn K (.ref f12) = true)
    (a13 : PySem.W.nsIn K mainGlobals "_law_draw" = some (some (.ref f13))) (l13 : K.lookup f13 = some ⟨oc13, od13, .func (PySem.W.fnOf "_law_draw" "_law_draw" (defArgs s_law_draw) (defBody s_law_draw) (defScope s_law_draw) .none kV13 dc13 pm13 an13 cd13 ct13), sl13⟩) (c13 : PySem.W.codeIn K cd13 "_law_draw" = true) (k13 : PySem.W.keepIn K (.ref f13) = true)
    (a14 : PySem.W.nsIn K mainGlobals "_law_names" = some (some (.ref f14))) (l14 : K.lookup f14 = some ⟨oc14, od14, .func (PySem.W.fnOf "_law_names" "_law_names" (defArgs s_law_names) (defBody s_law_names) (defScope s_law_names) .none kV14 dc14 pm14 an14 cd14 ct14), sl14⟩) (c14 : PySem.W.codeIn K cd14 "_law_names" = true) (k14 : PySem.W.keepIn K (.ref f14) = true)
    (a15 : PySem.W.nsIn K mainGlobals "_law_same" = some (some (.ref f15))) (l15 : K.lookup f15 = some ⟨oc15, od15, .func (PySem.W.fnOf "_law_same" "_law_same" (defArgs s_law_same) (defBody s_law_same) (defScope s_law_same) .none kV15 dc15 pm15 an15 cd15 ct15), sl15⟩) (c15 : PySem.W.codeIn K cd15 "_law_same" = true) (k15 : PySem.W.keepIn K (.ref f15) = true)
    (a16 : PySem.W.nsIn K mainGlobals "_law_fact" = some (some (.ref f16))) (l16 : K.lookup f16 = some ⟨oc16, od16, .func (PySem.W.fnOf "_law_fact" "_law_fact" (defArgs s_law_fact) (defBody s_law_fact) (defScope s_law_fact) .none kV16 dc16 pm16 an16 cd16 ct16), sl16⟩) (c16 : PySem.W.codeIn K cd16 "_law_fact" = true) (k16 : PySem.W.keepIn K (.ref f16) = true)
    (a17 : PySem.W.nsIn K mainGlobals "_law_true" = some (some (.ref f17))) (l17 : K.lookup f17 = some ⟨oc17, od17, .func (PySem.W.fnOf "_law_true" "_law_true" (defArgs s_law_true) (defBody s_law_true) (defScope s_law_true) .none kV17 dc17 pm17 an17 cd17 ct17), sl17⟩) (c17 : PySem.W.codeIn K cd17 "_law_true" = true) (k17 : PySem.W.keepIn K (.ref f17) = true)
    (a18 : PySem.W.nsIn K mainGlobals "_law_listed" = some (some (.ref f18))) (l18 : K.lookup f18 = some ⟨oc18, od18, .func (PySem.W.fnOf "_law_listed" "_law_listed" (defArgs s_law_listed) (defBody s_law_listed) (defScope s_law_listed) .none kV18 dc18 pm18 an18 cd18 ct18), sl18⟩) (c18 : PySem.W.codeIn K cd18 "_law_listed" = true) (k18 : PySem.W.keepIn K (.ref f18) = true)
    (a19 : PySem.W.nsIn K mainGlobals "_law_once" = some (some (.ref f19))) (l19 : K.lookup f19 = some ⟨oc19, od19, .func (PySem.W.fnOf "_law_once" "_law_once" (defArgs s_law_once) (defBody s_law_once) (defScope s_law_once) .none kV19 dc19 pm19 an19 cd19 ct19), sl19⟩) (c19 : PySem.W.codeIn K cd19 "_law_once" = true) (k19 : PySem.W.keepIn K (.ref f19) = true)
    (a20 : PySem.W.nsIn K mainGlobals "_law_all" = some (some (.ref f20))) (l20 : K.lookup f20 = some ⟨oc20, od20, .func (PySem.W.fnOf "_law_all" "_law_all" (defArgs s_law_all) (defBody s_law_all) (defScope s_law_all) .none kV20 dc20 pm20 an20 cd20 ct20), sl20⟩) (c20 : PySem.W.codeIn K cd20 "_law_all" = true) (k20 : PySem.W.keepIn K (.ref f20) = true)
    (a21 : PySem.W.nsIn K mainGlobals "_law_picked" = some (some (.ref f21))) (l21 : K.lookup f21 = some ⟨oc21, od21, .func (PySem.W.fnOf "_law_picked" "_law_picked" (defArgs s_law_picked) (defBody s_law_picked) (defScope s_law_picked) .none kV21 dc21 pm21 an21 cd21 ct21), sl21⟩) (c21 : PySem.W.codeIn K cd21 "_law_picked" = true) (k21 : PySem.W.keepIn K (.ref f21) = true)
    (a22 : PySem.W.nsIn K mainGlobals "_law_seen" = some (some (.ref f22))) (l22 : K.lookup f22 = some ⟨oc22, od22, .func (PySem.W.fnOf "_law_seen" "_law_seen" (defArgs s_law_seen) (defBody s_law_seen) (defScope s_law_seen) .none kV22 dc22 pm22 an22 cd22 ct22), sl22⟩) (c22 : PySem.W.codeIn K cd22 "_law_seen" = true) (k22 : PySem.W.keepIn K (.ref f22) = true)
    (a23 : PySem.W.nsIn K mainGlobals "_law_known" = some (some (.ref f23))) (l23 : K.lookup f23 = some ⟨oc23, od23, .func (PySem.W.fnOf "_law_known" "_law_known" (defArgs s_law_known) (defBody s_law_known) (defScope s_law_known) .none kV23 dc23 pm23 an23 cd23 ct23), sl23⟩) (c23 : PySem.W.codeIn K cd23 "_law_known" = true) (k23 : PySem.W.keepIn K (.ref f23) = true)
    (a24 : PySem.W.nsIn K mainGlobals "_law_worlds" = some (some (.ref f24))) (l24 : K.lookup f24 = some ⟨oc24, od24, .func (PySem.W.fnOf "_law_worlds" "_law_worlds" (defArgs s_law_worlds) (defBody s_law_worlds) (defScope s_law_worlds) .none kV24 dc24 pm24 an24 cd24 ct24), sl24⟩) (c24 : PySem.W.codeIn K cd24 "_law_worlds" = true) (k24 : PySem.W.keepIn K (.ref f24) = true)
    (a25 : PySem.W.nsIn K mainGlobals "_law_extended" = some (some (.ref f25))) (l25 : K.lookup f25 = some ⟨oc25, od25, .func (PySem.W.fnOf "_law_extended" "_law_extended" (defArgs s_law_extended) (defBody s_law_extended) (defScope s_law_extended) .none kV25 dc25 pm25 an25 cd25 ct25), sl25⟩) (c25 : PySem.W.codeIn K cd25 "_law_extended" = true) (k25 : PySem.W.keepIn K (.ref f25) = true)
    (a26 : PySem.W.nsIn K mainGlobals "_law_learned" = some (some (.ref f26))) (l26 : K.lookup f26 = some ⟨oc26, od26, .func (PySem.W.fnOf "_law_learned" "_law_learned" (defArgs s_law_learned) (defBody s_law_learned) (defScope s_law_learned) .none kV26 dc26 pm26 an26 cd26 ct26), sl26⟩) (c26 : PySem.W.codeIn K cd26 "_law_learned" = true) (k26 : PySem.W.keepIn K (.ref f26) = true)
    (a27 : PySem.W.nsIn K mainGlobals "law" = some (some (.ref f27))) (l27 : K.lookup f27 = some ⟨oc27, od27, .func (PySem.W.fnOf "law" "law" (defArgs s_law) (defBody s_law) (defScope s_law) .none kV27 dc27 pm27 an27 cd27 ct27), sl27⟩) (c27 : PySem.W.codeIn K cd27 "law" = true) (k27 : PySem.W.keepIn K (.ref f27) = true)
    (aC : PySem.W.nsIn K mainGlobals "Contradiction" = some (some (.ref C))) (xC : PySem.W.excIn K C [.type "ValueError", .type "Exception", .type "BaseException", .type "object"] "ValueError.__new__" = true) (kC : PySem.W.keepIn K (.ref C) = true) (bC : PySem.W.subIn K (.ref C) (.type "BaseException") = some true) (tC : PySem.W.typeIn K (.ref C) = some (.type "type")) (iC : PySem.W.isClsIn K C = true) (sC : PySem.W.subIn K (.ref C) (.ref C) = some true)
    (aM : PySem.W.nsIn K mainGlobals "MOST_UNDECIDED" = some (some (.int 6 t6)))
    (zlen : PySem.W.nsIn K mainGlobals "len" = some none) (zlist : PySem.W.nsIn K mainGlobals "list" = some none) (ztuple : PySem.W.nsIn K mainGlobals "tuple" = some none) (zsorted : PySem.W.nsIn K mainGlobals "sorted" = some none) (zall : PySem.W.nsIn K mainGlobals "all" = some none) (zany : PySem.W.nsIn K mainGlobals "any" = some none) (zreversed : PySem.W.nsIn K mainGlobals "reversed" = some none) (zisinstance : PySem.W.nsIn K mainGlobals "isinstance" = some none) (zdict : PySem.W.nsIn K mainGlobals "dict" = some none) (zint : PySem.W.nsIn K mainGlobals "int" = some none) (zstr : PySem.W.nsIn K mainGlobals "str" = some none) (zbool : PySem.W.nsIn K mainGlobals "bool" = some none) (zabs : PySem.W.nsIn K mainGlobals "abs" = some none) (zmax : PySem.W.nsIn K mainGlobals "max" = some none) (zrange : PySem.W.nsIn K mainGlobals "range" = some none) :
    ∃ fd : FuncData, (∀ (s : Shared) (v : Value), BindsTo s fd ⟨[v], []⟩ [("_law_script", v)]) ∧ ∀ base : Heap, K.In base → base.Ns mainGlobals mg → FnOk l.prog w K mg base CX0 10 fa fd ["_law_script"] (spLaw K) := by
  have e := hfa.symm.trans (PySem.W.mg_of X G a27)
  cases e
  have B : Blt mg := ⟨PySem.W.mg_none_of X G zlen, PySem.W.mg_none_of X G zlist, PySem.W.mg_none_of X G ztuple, PySem.W.mg_none_of X G zsorted, PySem.W.mg_none_of X G zall, PySem.W.mg_none_of X G zany, PySem.W.mg_none_of X G zreversed, PySem.W.mg_none_of X G zisinstance, PySem.W.mg_none_of X G zdict, PySem.W.mg_none_of X G zint, PySem.W.mg_none_of X G zstr, PySem.W.mg_none_of X G zbool, PySem.W.mg_none_of X G zabs, PySem.W.mg_none_of X G zmax, PySem.W.mg_none_of X G zrange⟩
  have TC : Contra K mg C := ⟨PySem.W.mg_of X G aC, xC, kC, bC, tC, exm_self bC iC tC sC⟩
  have mM := PySem.W.mg_of X G aM
  have F1 := fun_mk (st := s_parts_of) l1 c1 k1
  have m1 := PySem.W.mg_of X G a1
  have b1 := F1.binds (ps := ["fact"]) fun _ _ _ _ _ _ us hl => match us, hl with | [_], _ => rfl
  have F2 := fun_mk (st := s_listed_names) l2 c2 k2
  have m2 := PySem.W.mg_of X G a2
  have b2 := F2.binds (ps := ["fact"]) fun _ _ _ _ _ _ us hl => match us, hl with | [_], _ => rfl
  have F3 := fun_mk (st := s_add_names) l3 c3 k3
  have m3 := PySem.W.mg_of X G a3
  have b3 := F3.binds (ps := ["fact", "found"]) fun _ _ _ _ _ _ us hl => match us, hl with | [_, _], _ => rfl
  have F4 := fun_mk (st := s_names_of) l4 c4 k4
  have m4 := PySem.W.mg_of X G a4
  have b4 := F4.binds (ps := ["fact"]) fun _ _ _ _ _ _ us hl => match us, hl with | [_], _ => rfl
  have F5 := fun_mk (st := s_holds) l5 c5 k5
  have m5 := PySem.W.mg_of X G a5
  have b5 := F5.binds (ps := ["fact", "committed"]) fun _ _ _ _ _ _ us hl => match us, hl with | [_, _], _ => rfl
  have F6 := fun_mk (st := s_all_outcomes) l6 c6 k6
  have m6 := PySem.W.mg_of X G a6
  have b6 := F6.binds (ps := ["names"]) fun _ _ _ _ _ _ us hl => match us, hl with | [_], _ => rfl
  have F7 := fun_mk (st := s_restricted) l7 c7 k7
  have m7 := PySem.W.mg_of X G a7
  have b7 := F7.binds (ps := ["outcome", "names"]) fun _ _ _ _ _ _ us hl => match us, hl with | [_, _], _ => rfl
  have F8 := fun_mk (st := s_committed_names) l8 c8 k8
  have m8 := PySem.W.mg_of X G a8
  have b8 := F8.binds (ps := ["decided"]) fun _ _ _ _ _ _ us hl => match us, hl with | [_], _ => rfl
  have F9 := fun_mk (st := s_mention) l9 c9 k9
  have m9 := PySem.W.mg_of X G a9
  have b9 := F9.binds (ps := ["known", "names"]) fun _ _ _ _ _ _ us hl => match us, hl with | [_, _], _ => rfl
  have F10 := fun_mk (st := s_keep) l10 c10 k10
  have m10 := PySem.W.mg_of X G a10
  have b10 := F10.binds (ps := ["known", "outcomes"]) fun _ _ _ _ _ _ us hl => match us, hl with | [_, _], _ => rfl
  have F11 := fun_mk (st := s_learn) l11 c11 k11
  have m11 := PySem.W.mg_of X G a11
  have b11 := F11.binds (ps := ["known", "fact"]) fun _ _ _ _ _ _ us hl => match us, hl with | [_, _], _ => rfl
  have F12 := fun_mk (st := s_law_tape) l12 c12 k12
  have m12 := PySem.W.mg_of X G a12
  have b12 := F12.binds (ps := ["_law_script"]) fun _ _ _ _ _ _ us hl => match us, hl with | [_], _ => rfl
  have F13 := fun_mk (st := s_law_draw) l13 c13 k13
  have m13 := PySem.W.mg_of X G a13
  have b13 := F13.binds (ps := ["_law_tape_here", "_law_many"]) fun _ _ _ _ _ _ us hl => match us, hl with | [_, _], _ => rfl
  have F14 := fun_mk (st := s_law_names) l14 c14 k14
  have m14 := PySem.W.mg_of X G a14
  have b14 := F14.binds (ps := ["_law_tape_here", "_law_most"]) fun _ _ _ _ _ _ us hl => match us, hl with | [_, _], _ => rfl
  have F15 := fun_mk (st := s_law_same) l15 c15 k15
  have m15 := PySem.W.mg_of X G a15
  have b15 := F15.binds (ps := ["_law_told", "_law_due"]) fun _ _ _ _ _ _ us hl => match us, hl with | [_, _], _ => rfl
  have F16 := fun_mk (st := s_law_fact) l16 c16 k16
  have m16 := PySem.W.mg_of X G a16
  have b16 := F16.binds (ps := ["_law_tape_here", "_law_names_here", "_law_depth"]) fun _ _ _ _ _ _ us hl => match us, hl with | [_, _, _], _ => rfl
  have F17 := fun_mk (st := s_law_true) l17 c17 k17
  have m17 := PySem.W.mg_of X G a17
  have b17 := F17.binds (ps := ["_law_fact_here", "_law_committed"]) fun _ _ _ _ _ _ us hl => match us, hl with | [_, _], _ => rfl
  have F18 := fun_mk (st := s_law_listed) l18 c18 k18
  have m18 := PySem.W.mg_of X G a18
  have b18 := F18.binds (ps := ["_law_fact_here"]) fun _ _ _ _ _ _ us hl => match us, hl with | [_], _ => rfl
  have F19 := fun_mk (st := s_law_once) l19 c19 k19
  have m19 := PySem.W.mg_of X G a19
  have b19 := F19.binds (ps := ["_law_names_here"]) fun _ _ _ _ _ _ us hl => match us, hl with | [_], _ => rfl
  have F20 := fun_mk (st := s_law_all) l20 c20 k20
  have m20 := PySem.W.mg_of X G a20
  have b20 := F20.binds (ps := ["_law_names_here"]) fun _ _ _ _ _ _ us hl => match us, hl with | [_], _ => rfl
  have F21 := fun_mk (st := s_law_picked) l21 c21 k21
  have m21 := PySem.W.mg_of X G a21
  have b21 := F21.binds (ps := ["_law_tape_here", "_law_rows", "_law_one"]) fun _ _ _ _ _ _ us hl => match us, hl with | [_, _, _], _ => rfl
  have F22 := fun_mk (st := s_law_seen) l22 c22 k22
  have m22 := PySem.W.mg_of X G a22
  have b22 := F22.binds (ps := ["_law_row", "_law_names_here"]) fun _ _ _ _ _ _ us hl => match us, hl with | [_, _], _ => rfl
  have F23 := fun_mk (st := s_law_known) l23 c23 k23
  have m23 := PySem.W.mg_of X G a23
  have b23 := F23.binds (ps := ["_law_names_here", "_law_worlds_here"]) fun _ _ _ _ _ _ us hl => match us, hl with | [_, _], _ => rfl
  have F24 := fun_mk (st := s_law_worlds) l24 c24 k24
  have m24 := PySem.W.mg_of X G a24
  have b24 := F24.binds (ps := ["_law_tape_here", "_law_names_here"]) fun _ _ _ _ _ _ us hl => match us, hl with | [_, _], _ => rfl
  have F25 := fun_mk (st := s_law_extended) l25 c25 k25
  have m25 := PySem.W.mg_of X G a25
  have b25 := F25.binds (ps := ["_law_worlds_here", "_law_fresh"]) fun _ _ _ _ _ _ us hl => match us, hl with | [_, _], _ => rfl
  have F26 := fun_mk (st := s_law_learned) l26 c26 k26
  have m26 := PySem.W.mg_of X G a26
  have b26 := F26.binds (ps := ["_law_known_here", "_law_facts"]) fun _ _ _ _ _ _ us hl => match us, hl with | [_, _], _ => rfl
  have F27 := fun_mk (st := s_law) l27 c27 k27
  have m27 := PySem.W.mg_of X G a27
  refine ⟨PySem.W.fnOf "law" "law" (defArgs s_law) (defBody s_law) (defScope s_law) .none kV27 dc27 pm27 an27 cd27 ct27, fun s v => .of_eq rfl, fun base _ _ => ?_⟩
  have Dparts : Def l.prog w K mg base CX0 1 "parts_of" ["fact"] spParts := ⟨⟨_, _, ok_parts_of F1, m1, k1, b1⟩⟩
  have Dlistedn : Def l.prog w K mg base CX0 1 "listed_names" ["fact"] spListed := ⟨⟨_, _, ok_listed_names F2, m2, k2, b2⟩⟩
  have Dadd := add_all (P := l.prog) (w := w) (base := base) F3 m3 b3 Dlistedn Dparts 4
  have Dnamesof : Def l.prog w K mg base CX0 7 "names_of" ["fact"] spNames := ⟨⟨_, _, ok_names_of F4 B Dadd, m4, k4, b4⟩⟩
  have Dholds := holds_all (P := l.prog) (w := w) (base := base) F5 B m5 b5 4
  have Dallo : Def l.prog w K mg base CX0 1 "all_outcomes" ["names"] spAllO := ⟨⟨_, _, ok_all_outcomes F6 B, m6, k6, b6⟩⟩
  have Drestr : Def l.prog w K mg base CX0 1 "restricted" ["outcome", "names"] spRestr := ⟨⟨_, _, ok_restricted F7 B, m7, k7, b7⟩⟩
  have Dcomm : Def l.prog w K mg base CX0 1 "committed_names" ["decided"] spComm := ⟨⟨_, _, ok_committed_names F8 B, m8, k8, b8⟩⟩
  have Dmention : Def l.prog w K mg base CX0 2 "mention" ["known", "names"] spMention := ⟨⟨_, _, ok_mention F9 B mM Dallo Drestr, m9, k9, b9⟩⟩
  have Dkeep : Def l.prog w K mg base (L2.CX l.prog w) 2 "keep" ["known", "outcomes"] (spKeep C) := ⟨⟨_, _, ok_keep F10 B TC Drestr, m10, k10, b10⟩⟩
  have Dlearn : Def l.prog w K mg base (L2.CX l.prog w) 8 "learn" ["known", "fact"] (spLearn C) := ⟨⟨_, _, ok_learn F11 B TC Dmention Dnamesof Dcomm Dholds Dkeep, m11, k11, b11⟩⟩
  have Dtape : Def l.prog w K mg base CX0 1 "_law_tape" ["_law_script"] (spTape K) := ⟨⟨_, _, ok_tape F12 B, m12, k12, b12⟩⟩
  have Ddraw : Def l.prog w K mg base CX0 1 "_law_draw" ["_law_tape_here", "_law_many"] spDraw := ⟨⟨_, _, ok_draw F13 B, m13, k13, b13⟩⟩
  have Dnames : Def l.prog w K mg base CX0 2 "_law_names" ["_law_tape_here", "_law_most"] spNameL := ⟨⟨_, _, ok_names F14 B Ddraw, m14, k14, b14⟩⟩
  have Dsame := same_all (P := l.prog) (w := w) (base := base) F15 B m15 b15 5
  have Dfact := fact_all (P := l.prog) (w := w) (base := base) F16 B m16 b16 Ddraw
  have Dtrue := true_all (P := l.prog) (w := w) (base := base) F17 B m17 b17 4
  have Dlisted := listed_all (P := l.prog) (w := w) (base := base) F18 B m18 b18 4 (by decide)
  have Donce : Def l.prog w K mg base CX0 1 "_law_once" ["_law_names_here"] spOnce := ⟨⟨_, _, ok_once F19, m19, k19, b19⟩⟩
  have Dall : Def l.prog w K mg base CX0 1 "_law_all" ["_law_names_here"] spAllO := ⟨⟨_, _, ok_all F20 B, m20, k20, b20⟩⟩
  have Dpicked : Def l.prog w K mg base CX0 2 "_law_picked" ["_law_tape_here", "_law_rows", "_law_one"] spPicked := ⟨⟨_, _, ok_picked F21 Ddraw, m21, k21, b21⟩⟩
  have Dseen : Def l.prog w K mg base CX0 1 "_law_seen" ["_law_row", "_law_names_here"] spSeen := ⟨⟨_, _, ok_seen F22 B, m22, k22, b22⟩⟩
  have Dknown : Def l.prog w K mg base CX0 2 "_law_known" ["_law_names_here", "_law_worlds_here"] spKnown := ⟨⟨_, _, ok_known F23 B Dall Dseen, m23, k23, b23⟩⟩
  have Dworlds : Def l.prog w K mg base CX0 3 "_law_worlds" ["_law_tape_here", "_law_names_here"] spWorlds := ⟨⟨_, _, ok_worlds F24 B Dall Ddraw Dpicked, m24, k24, b24⟩⟩
  have Dextended : Def l.prog w K mg base CX0 2 "_law_extended" ["_law_worlds_here", "_law_fresh"] spExt := ⟨⟨_, _, ok_extended F25 Dall, m25, k25, b25⟩⟩
  have Dlearned : Def l.prog w K mg base CX0 9 "_law_learned" ["_law_known_here", "_law_facts"] spLearned := ⟨⟨_, _, ok_learned F26 B TC Dlearn, m26, k26, b26⟩⟩
  exact ok_law F27 B ⟨Dtape, Ddraw, Dnames, Dworlds, Dknown, Dfact, Dlisted, Donce, Dextended, Dtrue, Dsame, Dlearned⟩
theorem walk {l : PySem.W.OpenLaw} {q : Program} {loose : List PySem.Str} {XP : (PySem.Str → Option Value) → Heap → Prop} {YP : World → Heap → Prop} {d : DefRec} {K : Params → PySem.W.Frag} (hn : l.most = some 63) (hdf : d.params.defaults = [])
    (hY : ∀ (w : World) (h : Heap), YP w h → (K w.params).In h)
    (F : ∀ (w : World) (mg : PySem.Str → Option Value) (fa : Addr) (h : Heap), (K w.params).In h → h.Ns mainGlobals mg → mg d.name = some (.ref fa) →
      ∃ fd : FuncData, (∀ (s : Shared) (u : Value), BindsTo s fd ⟨[u], []⟩ [("_law_script", u)]) ∧ ∀ base : Heap, (K w.params).In base → base.Ns mainGlobals mg → FnOk l.prog w (K w.params) mg base CX0 10 fa fd ["_law_script"] (spLaw (K w.params))) :
    PySem.W.WalkO q loose XP YP l.row.toRowW d [] (fun f vs => PySem.call f vs) :=
  L2.walk_of (n := 63) (k := 10) (x := "_law_script") (CX := fun _ => CX0) (sp := fun w => spLaw (K w.params)) hn (by decide) hdf ⟨rfl, by decide, by decide⟩ hY F (fun _ _ a ns hl _ hS => ⟨a, ns, rfl, hS, hl, fun _ => rfl⟩) fun _ _ _ _ _ z => z
end K49
open PySem PySem.W PyProof.Rows
set_option maxRecDepth 100000 in
set_option maxHeartbeats 0 in
theorem PySem.Challenge.cw_indoubt_k49_whole_facts_in_any_order_holds : PySem.Challenge.rw_indoubt_k49_whole_facts_in_any_order.Holds := by
  w_on; o_law; k_head; (case hw => w_witness2)
  k_fill
  refine K49.walk (l := PySem.Challenge.rw_indoubt_k49_whole_facts_in_any_order) rfl rfl (fun w h Y => PySem.W.kIn_of Y) ?F
  case F =>
    intro w mg fa h KX G hmg
    refine' K49.all_mk KX G hmg ?a1 ?l1 ?c1 ?k1 ?a2 ?l2 ?c2 ?k2 ?a3 ?l3 ?c3 ?k3 ?a4 ?l4 ?c4 ?k4 ?a5 ?l5 ?c5 ?k5 ?a6 ?l6 ?c6 ?k6 ?a7 ?l7 ?c7 ?k7 ?a8 ?l8 ?c8 ?k8 ?a9 ?l9 ?c9 ?k9 ?a10 ?l10 ?c10 ?k10 ?a11 ?l11 ?c11 ?k11 ?a12 ?l12 ?c12 ?k12 ?a13 ?l13 ?c13 ?k13 ?a14 ?l14 ?c14 ?k14 ?a15 ?l15 ?c15 ?k15 ?a16 ?l16 ?c16 ?k16 ?a17 ?l17 ?c17 ?k17 ?a18 ?l18 ?c18 ?k18 ?a19 ?l19 ?c19 ?k19 ?a20 ?l20 ?c20 ?k20 ?a21 ?l21 ?c21 ?k21 ?a22 ?l22 ?c22 ?k22 ?a23 ?l23 ?c23 ?k23 ?a24 ?l24 ?c24 ?k24 ?a25 ?l25 ?c25 ?k25 ?a26 ?l26 ?c26 ?k26 ?a27 ?l27 ?c27 ?k27 ?aC ?xC ?kC ?bC ?tC ?iC ?sC ?aM ?zlen ?zlist ?ztuple ?zsorted ?zall ?zany ?zreversed ?zisinstance ?zdict ?zint ?zstr ?zbool ?zabs ?zmax ?zrange
    (case a1 => k_is)
    (case l1 => k_is)
    (case c1 => k_is)
    (case k1 => k_is)
    (case a2 => k_is)
    (case l2 => k_is)
    (case c2 => k_is)
    (case k2 => k_is)
    (case a3 => k_is)
    (case l3 => k_is)
    (case c3 => k_is)
    (case k3 => k_is)
    (case a4 => k_is)
    (case l4 => k_is)
    (case c4 => k_is)
    (case k4 => k_is)
    (case a5 => k_is)
    (case l5 => k_is)
    (case c5 => k_is)
    (case k5 => k_is)
    (case a6 => k_is)
    (case l6 => k_is)
    (case c6 => k_is)
    (case k6 => k_is)
    (case a7 => k_is)
    (case l7 => k_is)
    (case c7 => k_is)
    (case k7 => k_is)
    (case a8 => k_is)
    (case l8 => k_is)
    (case c8 => k_is)
    (case k8 => k_is)
    (case a9 => k_is)
    (case l9 => k_is)
    (case c9 => k_is)
    (case k9 => k_is)
    (case a10 => k_is)
    (case l10 => k_is)
    (case c10 => k_is)
    (case k10 => k_is)
    (case a11 => k_is)
    (case l11 => k_is)
    (case c11 => k_is)
    (case k11 => k_is)
    (case a12 => k_is)
    (case l12 => k_is)
    (case c12 => k_is)
    (case k12 => k_is)
    (case a13 => k_is)
    (case l13 => k_is)
    (case c13 => k_is)
    (case k13 => k_is)
    (case a14 => k_is)
    (case l14 => k_is)
    (case c14 => k_is)
    (case k14 => k_is)
    (case a15 => k_is)
    (case l15 => k_is)
    (case c15 => k_is)
    (case k15 => k_is)
    (case a16 => k_is)
    (case l16 => k_is)
    (case c16 => k_is)
    (case k16 => k_is)
    (case a17 => k_is)
    (case l17 => k_is)
    (case c17 => k_is)
    (case k17 => k_is)
    (case a18 => k_is)
    (case l18 => k_is)
    (case c18 => k_is)
    (case k18 => k_is)
    (case a19 => k_is)
    (case l19 => k_is)
    (case c19 => k_is)
    (case k19 => k_is)
    (case a20 => k_is)
    (case l20 => k_is)
    (case c20 => k_is)
    (case k20 => k_is)
    (case a21 => k_is)
    (case l21 => k_is)
    (case c21 => k_is)
    (case k21 => k_is)
    (case a22 => k_is)
    (case l22 => k_is)
    (case c22 => k_is)
    (case k22 => k_is)
    (case a23 => k_is)
    (case l23 => k_is)
    (case c23 => k_is)
    (case k23 => k_is)
    (case a24 => k_is)
    (case l24 => k_is)
    (case c24 => k_is)
    (case k24 => k_is)
    (case a25 => k_is)
    (case l25 => k_is)
    (case c25 => k_is)
    (case k25 => k_is)
    (case a26 => k_is)
    (case l26 => k_is)
    (case c26 => k_is)
    (case k26 => k_is)
    (case a27 => k_is)
    (case l27 => k_is)
    (case c27 => k_is)
    (case k27 => k_is)
    (case aC => k_is)
    (case xC => k_exc)
    (case kC => k_is)
    (case bC => k_is)
    (case tC => k_is)
    (case iC => k_is)
    (case sC => first | rfl | k_is)
    (case aM => k_is)
    (case zlen => k_is)
    (case zlist => k_is)
    (case ztuple => k_is)
    (case zsorted => k_is)
    (case zall => k_is)
    (case zany => k_is)
    (case zreversed => k_is)
    (case zisinstance => k_is)
    (case zdict => k_is)
    (case zint => k_is)
    (case zstr => k_is)
    (case zbool => k_is)
    (case zabs => k_is)
    (case zmax => k_is)
    (case zrange => k_is)
